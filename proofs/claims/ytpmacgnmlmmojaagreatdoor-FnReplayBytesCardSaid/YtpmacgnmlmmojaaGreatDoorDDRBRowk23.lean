/-
  Rules, data and contracts of functions: part 24 of the proof.
  Conditions: those that each theorem names.
-/
import Derived.Test.YtpmacgnmlmmojaaGreatDoorDDRBRowk22
set_option linter.unusedSimpArgs false
set_option linter.unusedVariables false
set_option maxRecDepth 8000
set_option maxHeartbeats 8000000
namespace Go.Proofs.YtpmacgnmlmmojaaGreatDoor
section
open Go.RowKit

def dvGo (s:ByteArray) (p:Nat) (n:Int) (k:Nat):Nat→Option (Int×Nat)
 |0=>none
 | f+1=>if p+k<s.size then
   (if 128≤byteAt s (p+k) then dvGo s p (n+byteAt s (p+k)%128*2 ^ (7*k)) (k+1) f
    else if (byteAt s (p+k)=0∧0<k)∨1099511627775<n+byteAt s (p+k)%128*2 ^ (7*k) then none
    else some (n+byteAt s (p+k)%128*2 ^ (7*k),k+1)) else none
def decVar (s:ByteArray) (p:Int):Option (Int×Nat):=if 0≤p∧p<s.size then dvGo s p.toNat 0 0 6 else none
@[reducible] def bv (b:Bool):V1 := .rd [] (.v (.bool b))
@[reducible] def jn (n:Int):V1 := .rd [] (.v (.int .i64 n))
@[reducible] def dvR:Option (Int×Nat)→V
 |none => .tu [.c (jn 0),.c (jn 0),.c (bv false)]
 |some (n,k) => .tu [.c (jn n),.c (jn k),.c (bv true)]
theorem pow7 {k:Nat} (h:k≤6):∃ M:Nat,2 ^ (7*k)=M∧1≤M∧M≤4398046511104:=by
 refine⟨_,J,Nat.one_le_two_pow,?_⟩
 exact Gq8 (Nat.pow_le_pow_right (by omega) (show 7*k≤42 by omega)) (by decide)
theorem pow7s (k:Nat):2 ^ (7*(k+1))=128*2 ^ (7*k):=by
 rw[show 7*(k+1)=7*k+7 by omega,Nat.pow_add]
 omega
theorem dv_part {c:Int} {M:Nat} (h0:0≤c) (h1:c<128):0≤c*(M:Int)∧c*(M:Int)≤127*M:=by
 refine⟨Int.mul_nonneg h0 (by omega),Int.mul_le_mul_of_nonneg_right (by omega) (by omega)⟩
theorem pow7i (k:Nat):(2:Int) ^ (7*(k:Int)).toNat=((2 ^ (7*k):Nat):Int):=by
 rw[show (7*(k:Int)).toNat=7*k by omega]
 norm_cast
theorem Xr (s:ByteArray) (p:Int) (hs:s.size≤1099511627776) (hp:I64 p):Con Tryz.prog 150 [] [astr s,ai p] [] (dvR (decVar s p)):=by
 obtain⟨hp1,hp2⟩:=hp
 by_cases hin:¬(0≤p∧p<s.size)
 ·rw[show decVar s p=none by rw[decVar,if_neg hin]]
  refine Con.of Tryz.func150 J Tryz.ntmps150 J (fun E => ?_)
  refine Wz [1,68,52,100,89,252] ?_;refine zx (Uk J (.hit (.hit .stop)) (fun hgrd=>Kr J J J)) J ?_;refine zx (Uk J (.hit (.hit (.hit .stop))) (fun hgrd=>q_geq J J J J)) J ?_;refine Wz [110] ?_
  refine Xb J (fun h => ?_) (fun h => ?_)
  ·refine Wz [1,68,34,159] ?_
   refine Wz [301,205,73] ?_
   exact Xq J J J J (Gr [] J J J)
  ·simp only[Gqv,decide_eq_false_iff_not] at h
   omega
 have hin:=Classical.not_not.1 hin
 obtain⟨q,rfl⟩:∃ q:Nat,p=q:=⟨p.toNat,by omega⟩
 rw[show decVar s q=dvGo s q 0 0 6 by rw[decVar,if_pos hin]; rfl]
 have hb1:decide ((q:Int)<0)=false:=Gqa (by omega)
 have hb2:decide ((s.size:Int)≤q)=false:=Gqa (by omega)
 refine Con.of Tryz.func150 J Tryz.ntmps150 J (fun E => ?_)
 refine Wz [1,68,52,5,69,106,132,7,38,36,12,63] ?_;refine Xi (fun m__ st=>∃ (k:Nat) (n:Int),6-k=m__∧(k≤6∧0≤n∧n<((2 ^ (7*k):Nat):Int)∧dvGo s q n k (6-k)=dvGo s q 0 0 6)∧st=(⟨_,[(0,S s),(1,I q),(7,I n),(8,I k)],[]⟩:St)) _ ⟨_,⟨0,0,J,⟨by omega,by omega,by simp,J⟩,J⟩,Gs []⟩ ?_
 rintro m_A _ ⟨k,n,hk_A,hp_A,rfl⟩
 obtain⟨hk6,hn0,hn1,hgo⟩:=hp_A
 obtain⟨M,hM,hM1,hM2⟩:=pow7 hk6
 have hMs:=pow7s k
 rw[hM] at hn1 hMs
 rw[←hgo]
 refine Wz [25,100,0,154,219,268] ?_;refine zx (Qt.grdT J J J (.hit (.hit (.hit .stop))) (fun hgrd=>Qa J J J)) J ?_;refine zx (Qt.grdT J J J (.hit (.hit (.hit (.hit .stop)))) (fun hgrd=>Xc J J J J (by omega))) J ?_;refine zx (Qt.grdT J J J (.hit (.hit (.hit (.hit (.hit .stop))))) (fun hgrd=>Ku J J J J)) J ?_;refine Wz [84,2] ?_
 refine Xb J (fun h => ?_) (fun h => ?_)
 ·simp only[Gqg,decide_eq_true_eq] at h
  have hlt:q+k<s.size:=by omega
  obtain⟨f,hf⟩:∃ f,6-k=f+1:=⟨5-k,by omega⟩
  obtain⟨c,hc⟩:∃ c,byteAt s (q+k)=c:=⟨_,rfl⟩
  have hcr:=Yu s (q+k)
  rw[hc] at hcr
  have hc1:byteAt s ((q:Int)+(k:Int)).toNat=c:=by rw[←hc]; congr 1
  obtain⟨d,hd⟩:∃ d:Nat,c%128=d:=⟨(c%128).toNat,by omega⟩
  have hd1:c.toNat &&& (127:Int).toNat=d:=by
   rw[show (127:Int).toNat=2 ^ 7-1 from rfl,Gzg]
   omega
  have hdM:=dv_part (c:=d) (M:=M) (by omega) (by omega)
  obtain⟨r,hr⟩:∃ r,(d:Int)*M=r:=⟨_,rfl⟩
  rw[hr] at hdM
  have hr1:(d:Int)*2 ^ (7*(k:Int)).toNat=r:=by rw[pow7i,hM,hr]
  have hgo1:dvGo s q n k (f+1)=if 128≤c then dvGo s q (n+r) (k+1) f else if (c=0∧0<k)∨1099511627775<n+r then none else some (n+r,k+1):=by
   have h9:c%128*2 ^ (7*k)=r:=by
    rw[hd,←hr,←hM]
    norm_cast
   rw[dvGo,if_pos hlt,hc,h9]
  rw[hf,hgo1]
  by_cases h7:128≤c
  ·have hb7:decide (128≤c)=true:=Gqb h7
   refine Wz [123,46,139,96,253,166,0,67,254,35,52,132,15,167,168,43] ?_
   refine⟨_,(by omega),_,⟨k+1,n+r,J,⟨by omega,by omega,by rw[hMs]; omega,by rw[if_pos h7,show 6-(k+1)=f by omega]⟩,J⟩,Gs []⟩
  have hb7:decide (128≤c)=false:=Gqa h7
  rw[if_neg h7]
  refine Wz [123,46,139,96,253,166,0,67,254,35,52,132,38,25,186,0,154] ?_;refine zx (Qt.grdT J J J (.hit .stop) (fun hgrd=>Kn J J J J)) J ?_;refine Wz [84,89,220,110] ?_
  refine Xb J (fun h8 => ?_) (fun h8 => ?_)
  ·simp only[Gqs,Gqg,decide_eq_true_eq] at h8
   rw[if_pos (by omega)]
   refine Wz [1,68,85,53] ?_
   exact Xq J J J J (Gr [] J J J)
  ·simp only[Gqv,Gxu,decide_eq_false_iff_not] at h8
   rw[if_neg (by omega)]
   refine Wz [54,37,35,68,88,53] ?_
   exact Xq J J J J (Gr [] J J J)
 ·simp only[Gxu,decide_eq_false_iff_not] at h
  rw[show dvGo s q n k (6-k)=none by
   cases hf:6-k with
   |zero=>rfl
   |succ f=>rw[dvGo,if_neg (by omega)]]
  refine Wz [40,1,68,19] ?_
  exact Xq J J J J (Gr [] J J J)
theorem or_add {n r M:Nat} {k d:Nat} (hM:2 ^ (7*k)=M) (hn:n<M) (hr:d*M=r):n ||| r=n+r:=by
 subst hM
 rw[←hr,Nat.mul_comm,Nat.add_comm,Nat.or_comm]
 exact (Nat.two_pow_add_eq_or_of_lt hn d).symm
def bytesL (s:ByteArray) (p k:Nat):List UInt8:=(s.data.toList.drop p).take k
theorem Yt {s:ByteArray} {i:Nat} (h:i<s.size):∃ b:UInt8,s.data.toList[i]? = some b∧byteAt s i=(b.toNat:Int):=by
 have h1:i<s.data.size:=h
 refine⟨s.data[i],by simp[h1],?_⟩
 unfold byteAt
 have:s[i]? = some s.data[i]:=by
  rw[getElem?_pos s i h]
  rfl
 rw[this]
 rfl
theorem bytesL_succ {s:ByteArray} {p k:Nat} (h:p+k<s.size):∃ b:UInt8,bytesL s p (k+1)=bytesL s p k ++ [b]∧byteAt s (p+k)=(b.toNat:Int):=by
 obtain⟨b,h1,h2⟩:=Yt h
 refine⟨b,?_,h2⟩
 unfold bytesL
 rw[List.take_add_one,Gq5,h1]
 rfl
def dval:List UInt8→Nat
 | []=>0
 |b::l=>b.toNat%128+128*dval l
theorem dval_snoc (b:UInt8):∀ l:List UInt8,dval (l ++ [b])=dval l+b.toNat%128*2 ^ (7*l.length)
 | []=>by simp[dval]
 |a::l=>by
  have h1:=dval_snoc b l
  have h2:=pow7s l.length
  simp only[List.cons_append,dval,Gqt,h1,h2]
  rw[Nat.mul_add,Gxz,Nat.mul_left_comm]
theorem dval_lt:∀ l:List UInt8,dval l<2 ^ (7*l.length)
 | []=>by simp[dval]
 |a::l=>by
  have h1:=dval_lt l
  have h2:=pow7s l.length
  simp only[dval,Gqt,h2]
  omega
theorem dval_zero {b:UInt8} (hb:b.toNat<128):∀ {l:List UInt8},dval (l ++ [b])=0→b.toNat=0
 | [],h=>by simp[dval] at h; omega
 |a::l,h=>by
  simp only[List.cons_append,dval] at h
  exact dval_zero hb (l:=l) (by omega)
theorem canon {b:UInt8} (hb:b.toNat<128):∀ (l:List UInt8),(∀ a∈l,128≤a.toNat)→(varN (dval (l ++ [b]))=l ++ [b]↔(l = []∨b.toNat≠0))
 | [],_=>by
  simp only[List.nil_append,dval,true_or,iff_true]
  rw[Nat.mod_eq_of_lt hb,Nat.mul_zero,Gx3,Vo hb,UInt8.ofNat_toNat]
 | a::l,h=>by
  have ih:=canon hb l fun x hx=>h x (by simp[hx])
  have ha:=h a (by simp)
  have ha2:=a.toNat_lt
  simp only[List.cons_append,dval]
  by_cases hD:dval (l ++ [b])=0
  ·have h0:=dval_zero hb hD
   rw[hD,Nat.mul_zero,Gx3,Vo (by omega)]
   constructor
   ·intro e
    have:=congrArg List.length e
    simp at this
   ·intro e
    rcases e with e | e
    ·cases e
    ·exact absurd h0 e
  ·have hm:(a.toNat%128+128*dval (l ++ [b]))%128=a.toNat%128:=by omega
   have hq:(a.toNat%128+128*dval (l ++ [b]))/128=dval (l ++ [b]):=by omega
   have ha3:UInt8.ofNat (a.toNat%128+128)=a:=by
    rw[show a.toNat%128+128=a.toNat by omega,UInt8.ofNat_toNat]
   rw[varN_big (by omega),hm,hq,ha3]
   simp only[List.cons.injEq,true_and]
   rw[ih]
   constructor
   ·intro e
    rcases e with rfl | e
    ·refine .inr fun e=>hD ?_
     simp[dval,e]
    ·exact .inr e
   ·intro e
    rcases e with e | e
    ·cases e
    ·exact .inr e
theorem Zh (s:ByteArray) (p q:Nat):(s.extract p q).data.toList=(s.data.toList.drop p).take (q-p):=by
 rw[ByteArray.data_extract,Array.toList_extract]
theorem Zg (s:ByteArray) (p k:Nat):s.extract p (p+k)=bs (bytesL s p k):=by
 rw[←bs_of (s.extract p (p+k)),Zh,show p+k-p=k by omega]
 rfl
theorem X7 (s:ByteArray) (p:Int) (hs:s.size≤1099511627776) (hp:I64 p):Con Tryz.prog 268 [] [astr s,ai p] [] (dvR (decVar s p)):=by
 obtain⟨hp1,hp2⟩:=hp
 by_cases hneg:p<0
 ·have hb1:decide (p<0)=true:=Gqb hneg
  rw[show decVar s p=none by rw[decVar,if_neg (by omega)]]
  refine Con.of Tryz.func268 J Tryz.ntmps268 J (fun E => ?_)
  refine Wz [1,68,52,5,28,68,31] ?_
  exact Xq J J J J (Gr [] J J J)
 have hb1:decide (p<0)=false:=Gqa hneg
 by_cases hbig:(s.size:Int)≤p
 ·have hb2:decide (p<(s.size:Int))=false:=Gqa (by omega)
  rw[show decVar s p=none by rw[decVar,if_neg (by omega)]]
  refine Con.of Tryz.func268 J Tryz.ntmps268 J (fun E => ?_)
  refine Wz [1,68,52,5,38,36,12,63] ?_;refine Xi (fun m st=>∃ k:Nat,k+m=1∧(True)∧st=(⟨_,[(0,S s),(1,I p),(8,I k)],[]⟩:St)) (1) ⟨_,⟨0,by omega,trivial,J⟩,Gs []⟩ ?_
  rintro m_A _ ⟨k,hk_A,hp_A,rfl⟩
  have hkz:k=0∨k=1:=by omega
  have hb3:decide ((k:Int)<6)=true:=Gqb (by omega)
  refine Wz [25,5,69,106,5,9,20,135,7,61,1,68,19] ?_
  exact Xq J J J J (Gr [] J J J)
 obtain⟨q,rfl⟩:∃ q:Nat,p=q:=⟨p.toNat,by omega⟩
 have hb2:decide ((q:Int)<(s.size:Int))=true:=Gqb (by omega)
 rw[show decVar s q=dvGo s q 0 0 6 by rw[decVar,if_pos (by omega)]; rfl]
 refine Con.of Tryz.func268 J Tryz.ntmps268 J (fun E => ?_)
 refine Wz [1,68,52,5,38,36,12,63] ?_;refine Xi (fun m__ st=>∃ (k:Nat) (n:Nat),6-k=m__∧(k≤6∧q+k≤s.size∧(∀ a∈bytesL s q k,128≤a.toNat)∧n=dval (bytesL s q k)∧dvGo s q n k (6-k)=dvGo s q 0 0 6)∧st=(⟨_,[(0,S s),(1,I q),(7,I n),(8,I k)],[]⟩:St)) _ ⟨_,⟨0,0,J,⟨by omega,by omega,by simp[bytesL],by simp[bytesL,dval],J⟩,J⟩,Gs []⟩ ?_
 rintro m_A _ ⟨k,n,hk_A,hp_A,rfl⟩
 obtain⟨hk6,hqk,hall,hn,hgo⟩:=hp_A
 have hlen:(bytesL s q k).length=k:=by
  have:s.data.toList.length=s.size:=by simp
  simp[bytesL]; omega
 have hn1:=dval_lt (bytesL s q k)
 rw[←hn,hlen] at hn1
 obtain⟨M,hM,hM1,hM2⟩:=pow7 hk6
 have hMs:=pow7s k
 rw[hM] at hn1 hMs
 rw[←hgo]
 refine Wz [25,100,0,154,219,268] ?_;refine zx (Qt.grdT J J J (.hit (.hit (.hit .stop))) (fun hgrd=>Qr J J J J (by assumption))) J ?_;refine Wz [84,0,154,219] ?_;refine zx (Qt.grdT J J J (.hit (.hit .stop)) (fun hgrd=>Qs J J J J (by omega))) J ?_;refine zx (Qt.grdT J J J (.hit (.hit (.hit .stop))) (fun hgrd=>Qa J J J)) J ?_;refine zx (Qt.grdT J J J (.hit (.hit (.hit (.hit .stop)))) (fun hgrd=>Kr J J J)) J ?_;refine zx (Qt.grdT J J J (.hit (.hit (.hit (.hit (.hit .stop))))) (fun hgrd=>Ku J J J J)) J ?_;refine Wz [84,2] ?_
 refine Xb J (fun h => ?_) (fun h => ?_)
 ·simp only[Gqg,decide_eq_true_eq] at h
  have hlt:q+k<s.size:=by omega
  obtain⟨f,hf⟩:∃ f,6-k=f+1:=⟨5-k,by omega⟩
  obtain⟨b,hb,hcb⟩:=bytesL_succ hlt
  obtain⟨c,hc⟩:∃ c:Nat,b.toNat=c:=⟨_,rfl⟩
  rw[hc] at hcb
  have hcr:=Yu s (q+k)
  rw[hcb] at hcr
  have hc1:byteAt s ((q:Int)+(k:Int)).toNat=(c:Int):=by rw[←hcb]; congr 1
  obtain⟨d,hd⟩:∃ d:Nat,c%128=d:=⟨_,rfl⟩
  have hd1:(c:Int).toNat &&& (127:Int).toNat=d:=by
   rw[show (127:Int).toNat=2 ^ 7-1 from rfl,Gzg]
   exact hd
  obtain⟨r,hr⟩:∃ r:Nat,d*M=r:=⟨_,rfl⟩
  have hr2:r≤127*M:=by rw[←hr]; exact Gx2 _ (by omega)
  have hr1:(d:Int)*2 ^ (7*(k:Int)).toNat=(r:Int):=by rw[pow7i,hM,←hr]; norm_cast
  have hor:(n:Int).toNat ||| (r:Int).toNat=n+r:=or_add hM hn1 hr
  have hval:n+r=dval (bytesL s q (k+1)):=by rw[hb,dval_snoc,hlen,hM,hc,hd,hr,←hn]
  have hgo1:dvGo s q n k (f+1)=if 128≤(c:Int) then dvGo s q ((n+r:Nat):Int) (k+1) f else if ((c:Int)=0∧0<k)∨1099511627775<((n+r:Nat):Int) then none else some (((n+r:Nat):Int),k+1):=by
   have h9:(n:Int)+(c:Int)%128*2 ^ (7*k)=((n+r:Nat):Int):=by
    rw[show (c:Int)%128=d by omega,←hr,←hM]
    norm_cast
   rw[dvGo,if_pos hlt,hcb,h9]
  rw[hf,hgo1]
  by_cases h7:128≤(c:Int)
  ·have hb7:decide ((c:Int)<128)=false:=Gqa (by omega)
   refine Wz [123,0,46,139,253,166,0,67,254,266,96,46,139,5,62,43] ?_
   refine⟨_,(by omega),_,⟨k+1,n+r,rfl,⟨by omega,by omega,by rw[hb]; intro a ha; rcases Gqm.1 ha with ha | ha; exact hall a ha; simp only[Gq7] at ha; rw[ha]; omega,hval,by rw[if_pos h7,show 6-(k+1)=f by omega]⟩,rfl⟩,Gs []⟩
  have hb7:decide ((c:Int)<128)=true:=Gqb (by omega)
  rw[if_neg h7]
  have hcan:=canon (b:=b) (by omega) (bytesL s q k) hall
  rw[←hb,←hval] at hcan
  have hle:=Zd ((n+r:Nat):Int)
  have hex:=Zg s q (k+1)
  have hnil:bytesL s q k = []↔k=0:=by rw[←List.length_eq_zero_iff,hlen]
  have hne:bytesL s q (k+1) ≠ []:=by rw[hb]; simp
  have hex1:s.extract ((q:Int)).toNat ((q:Int)+(k:Int)+1).toNat=bs (bytesL s q (k+1)):=by rw[←hex]; congr 1
  have hiff:bs (encVar ((n+r:Nat):Int))=bs (bytesL s q (k+1))↔¬(((c:Int)=0∧0<k)∨1099511627775<((n+r:Nat):Int)):=by
   rw[bs_inj,encVar]
   split
   ·rename_i h5
    rw[show (((n+r:Nat):Int)).toNat=n+r by omega,hcan,hnil]
    omega
   ·exact⟨fun e=>absurd e.symm hne,fun e=>by omega⟩
  by_cases h8:((c:Int)=0∧0<k)∨1099511627775<((n+r:Nat):Int)
  ·rw[if_pos h8]
   have hb8:decide (bs (encVar ((n+r:Nat):Int))≠s.extract ((q:Int)).toNat ((q:Int)+(k:Int)+1).toNat)=true:=Gqb (by rw[hex1]; exact fun e=>hiff.1 e h8)
   refine Wz [123,0,46,139,253,166,0,67,254,266,96,46,139,57,12,12] ?_;refine Xh u8_4 u8_5 u8_6 J (Vx (Qa J J J) J ?_);refine Vx (Qj J J (X8 ((n+r:Nat):Int)) J) J ?_;refine Wz [29,29,164,164,234,269,17,28,68,85,53] ?_
   exact Xq J J J J (Gr [] J J J)
  ·rw[if_neg h8]
   have hb8:decide (bs (encVar ((n+r:Nat):Int))≠s.extract ((q:Int)).toNat ((q:Int)+(k:Int)+1).toNat)=false:=Gqa (by rw[hex1]; exact fun e=>e (hiff.2 h8))
   refine Wz [123,0,46,139,253,166,0,67,254,266,96,46,139,57,12,12] ?_;refine Xh u8_4 u8_5 u8_6 J (Vx (Qa J J J) J ?_);refine Vx (Qj J J (X8 ((n+r:Nat):Int)) J) J ?_;refine Wz [29,29,164,164,234,269,17,86,35,68,88,53] ?_
   exact Xq J J J J (Gr [] J J J)
 ·simp only[Bool.and_true,Gxu,decide_eq_false_iff_not] at h
  rw[show dvGo s q n k (6-k)=none by
   cases hf:6-k with
   |zero=>rfl
   |succ f=>rw[dvGo,if_neg (by omega)]]
  refine Wz [40,1,68,19] ?_
  exact Xq J J J J (Gr [] J J J)
end
section
open Go.RowKit

theorem dvGo_some (s:ByteArray) (q:Nat):∀ (f k:Nat) (n m:Int) (j:Nat),0≤n→dvGo s q n k f=some (m,j)→0≤m∧m≤1099511627775∧k<j∧j≤k+f∧q+j≤s.size:=by
 intro f
 induction f with
 |zero=>intro k n m j _ h; simp[dvGo] at h
 | succ f ih =>
  intro k n m j h0 h
  have hb:=Yu s (q+k)
  rw[dvGo] at h
  have hp:(0:Int)≤byteAt s (q+k)%128*2 ^ (7*k):=Int.mul_nonneg (by omega) (Int.le_of_lt (Int.pow_pos (by omega)))
  split at h
  ·split at h
   ·have:=ih (k+1) _ m j (by omega) h
    omega
   ·split at h
    ·cases h
    ·simp only[Option.some.injEq,Prod.mk.injEq] at h
     obtain⟨rfl,rfl⟩:=h
     omega
  ·cases h
theorem Y3 {s:ByteArray} {p m:Int} {j:Nat} (h:decVar s p=some (m,j)):0≤p∧0≤m∧m≤1099511627775∧1≤j∧j≤6∧p+j≤s.size:=by
 unfold decVar at h
 split at h
 ·have:=dvGo_some s p.toNat 6 0 0 m j (by omega) h
  omega
 ·cases h
theorem q_quoN {P:Program} {ops:Array Oper} {o:Oper} {st:St} {n:Nat} {t t':TypeId} {y z:Operand} {ps qs:List Nat} {i j r:Int} (ho:o.op = .binOp .quo t y z t') (hg:o.guard=none) (hy:st.ev y = .o (.c (.rd ps (.v (.int .i64 i))))) (hz:st.ev z = .o (.c (.rd qs (.v (.int .i64 j)))))
  (hr:i.tdiv j=r) (hb : -9223372036854775808≤i∧i≤9223372036854775807∧1≤j):Qt P ops o st (I r) [] n :=
 hr▸Z9 ho hg hy hz fun w=>by
  have:j≠0:=by omega
  simp[binOp,Op.intDiv,this,IntWalk.i64_quo' _ _ hb]
def signed (n:Int):Int:=if 0≤n∧n≤1099511627775 then (if n%2=0 then n/2 else -((n+1)/2)) else 0
theorem signed_gd (n:Int):I64 (signed n):=by
 unfold signed
 split
 ·split <;> exact⟨by omega,by omega⟩
 ·exact⟨by omega,by omega⟩
theorem neg_tdiv {n:Int} (h:0≤n):(-(n+1)).tdiv 2 = -((n+1)/2):=by
 rw[Int.neg_tdiv,Int.tdiv_eq_ediv_of_nonneg (by omega)]
theorem I_Signed (n:Int) (hn:I64 n):Con Tryz.prog 152 [] [ai n] [] (I (signed n)):=by
 obtain⟨hn1,hn2⟩:=hn
 refine Con.of Tryz.func152 J Tryz.ntmps152 J (fun E => ?_)
 refine Wz [94,100,89,220,110] ?_
 refine Xb J (fun h => ?_) (fun h => ?_)
 ·simp only[Gqs,decide_eq_true_eq] at h
  refine Wz [1,31] ?_
  exact Gq J (Gr [] J J (Xz (by rw[signed,if_neg (by omega)])))
 simp only[Gqv,decide_eq_false_iff_not] at h
 have hv:=neg_tdiv (n:=n) (by omega)
 refine Wz [54,25,111,186,2] ?_
 refine Xb J (fun h1 => ?_) (fun h1 => ?_)
 ·have h1:=Gqi h1
  refine Wz [10,155,31] ?_
  exact Gq J (Gr [] J J (Xz (by rw[signed,if_pos (by omega),if_pos (by omega)])))
 ·have h1:=Gqj h1
  refine Wz [54,10,35,255] ?_;refine zx (q_quoN J J J J (by assumption) (by omega)) J ?_;refine Wz [19] ?_
  exact Gq J (Gr [] J J (Xz (by rw[signed,if_pos (by omega),if_neg (by omega)])))
theorem S_Signed (n:Int) (hn:I64 n):Con Tryz.prog 286 [] [ai n] [] (I (signed n)):=by
 obtain⟨hn1,hn2⟩:=hn
 refine Con.of Tryz.func286 J Tryz.ntmps286 J (fun E => ?_)
 refine Wz [94] ?_;refine zx (Qj J J (S_in n 0 1099511627775) J) J ?_;refine Wz [16,2] ?_
 refine Xb J (fun h => ?_) (fun h => ?_)
 ·have h:¬(0≤n∧n≤1099511627775):=by rw[←Zn]; simpa using h
  refine Wz [1,31] ?_
  exact Gq J (Gr [] J J (Xz (by rw[signed,if_neg h])))
 have h:0≤n∧n≤1099511627775:=by rw[←Zn]; simpa using h
 have hv:=neg_tdiv (n:=n) (by omega)
 have hm:n.toNat &&& (1:Int).toNat=n.toNat%2:=Gzg n.toNat 1
 refine Wz [54,25] ?_;refine zx (q_bandK J J J J (by assumption) (by omega)) J ?_;refine Wz [186,2] ?_
 refine Xb J (fun h1 => ?_) (fun h1 => ?_)
 ·have h1:=Gqi h1
  refine Wz [10,35,255] ?_;refine zx (q_quoN J J J J (by assumption) (by omega)) J ?_;refine Wz [31] ?_
  exact Gq J (Gr [] J J (Xz (by rw[signed,if_pos (by omega),if_neg (by omega)])))
 ·have h1:=Gqj h1
  refine Wz [54,10,155,19] ?_
  exact Gq J (Gr [] J J (Xz (by rw[signed,if_pos (by omega),if_pos (by omega)])))
/-! ### Lists -/
def uiGo (s:ByteArray) (p:Nat):Nat→Nat→Option (List Int×Nat)
 |0,pos=>some ([],pos)
 |c+1,pos=>match decVar s ((p:Int)+(pos:Int)) with
  |none=>none
  |some (v,m)=>(uiGo s p c (pos+m)).map fun r=>(signed v::r.1,r.2)
def unpackInts (s:ByteArray) (p:Int):Option (List Int×Nat):=match decVar s p with
 |none=>none
 |some (n,k)=>uiGo s p.toNat n.toNat k
@[reducible] def uiO:Option (List Int×Nat)→List Ob
 |none => [.row 1 []]
 |some (l,_) => [.row 1 (els l)]
@[reducible] def uiR:Option (List Int×Nat)→V
 |none => .tu [.c (.ref 0),.c (jn 0),.c (bv false)]
 |some (_,k) => .tu [.c (.ref 0),.c (jn k),.c (bv true)]
theorem uiGo_some (s:ByteArray) (p:Nat):∀ (c pos:Nat) (l:List Int) (j:Nat),uiGo s p c pos=some (l,j)→l.length=c∧pos+c≤j∧(0<c→p+j≤s.size)∧(∀ x∈l,I64 x):=by
 intro c
 induction c with
 |zero =>
  intro pos l j h
  simp only[uiGo,Option.some.injEq,Prod.mk.injEq] at h
  obtain⟨rfl,rfl⟩:=h
  exact⟨J,by omega,fun h=>by omega,fun x hx=>by simp at hx⟩
 | succ c ih =>
  intro pos l j h
  rw[uiGo] at h
  split at h
  ·cases h
  ·rename_i v m hd
   obtain⟨r,h1,h2⟩:=Option.map_eq_some_iff.1 h
   simp only[Prod.mk.injEq] at h2
   obtain⟨rfl,rfl⟩:=h2
   have hm:=Y3 hd
   obtain⟨a1,a2,a3,a4⟩:=ih (pos+m) r.1 r.2 h1
   refine⟨by simp[a1],by omega,fun _ => ?_,fun x hx => ?_⟩
   ·by_cases hc:0<c
    ·exact a3 hc
    ·have:c=0:=by omega
     subst this
     simp only[uiGo,Option.some.injEq] at h1
     rw[←h1]
     show p+(pos+m)≤s.size
     omega
   ·rcases List.mem_cons.1 hx with rfl | hx
    ·exact signed_gd v
    ·exact a4 x hx
theorem Vj {s:ByteArray} {p:Int} {l:List Int} {j:Nat} (h:unpackInts s p=some (l,j)):0≤p∧1≤j∧p+j≤s.size∧(l.length:Int)+1≤j∧(∀ x∈l,I64 x):=by
 unfold unpackInts at h
 split at h
 ·cases h
 ·rename_i n k hd
  have hm:=Y3 hd
  obtain⟨a1,a2,a3,a4⟩:=uiGo_some s _ _ _ _ _ h
  refine⟨hm.1,by omega,?_,by omega,a4⟩
  by_cases hn:0<n.toNat
  ·have:=a3 hn; omega
  ·have h0:n.toNat=0:=by omega
   rw[h0] at h
   simp only[uiGo,Option.some.injEq,Prod.mk.injEq] at h
   omega
theorem els_snocI (acc:List Int) (v:Int):els (acc ++ [v])=els acc ++ [[.v (.int .i64 v)]]:=by simp[els,Enc.e]
theorem I_UnpackInts (s:ByteArray) (p:Int) (hs:s.size≤1099511627776) (hp:I64 p):Con Tryz.prog 73 [] [astr s,ai p] (uiO (unpackInts s p)) (uiR (unpackInts s p)):=by
 have hd:=Xr s p hs hp
 cases hv:decVar s p with
 |none =>
  rw[hv] at hd
  rw[show unpackInts s p=none by rw[unpackInts,hv]]
  refine Con.of Tryz.func73 J Tryz.ntmps73 J (fun E => ?_)
  refine Wz [1,68,96,125,20,165,9,28,68,31] ?_
  exact Xq J J J J (Ye [1] [0] J J (by decide) J J J)
 | some r =>
  obtain⟨n,k0⟩:=r
  rw[hv] at hd
  have hm:=Y3 hv
  obtain⟨q,rfl⟩:∃ q:Nat,p=q:=⟨p.toNat,by omega⟩
  obtain⟨c,rfl⟩:∃ c:Nat,n=c:=⟨n.toNat,by omega⟩
  rw[show unpackInts s q=uiGo s q c k0 by rw[unpackInts,hv]; rfl]
  by_cases hbig:(s.size:Int)-q-k0<c
  ·have hb:decide ((s.size:Int)-q-k0<c)=true:=Gqb hbig
   have hno:uiGo s q c k0=none:=by
    cases ho:uiGo s q c k0 with
    |none=>rfl
    |some r =>
     have:=uiGo_some s q c k0 r.1 r.2 ho
     omega
   rw[hno]
   refine Con.of Tryz.func73 J Tryz.ntmps73 J (fun E => ?_)
   refine Wz [1,68,96,125,69,106,18,87,18,87,113,28,68,31] ?_
   exact Xq J J J J (Ye [1] [0] J J (by decide) J J J)
  have hb:decide ((s.size:Int)-q-k0<c)=false:=Gqa hbig
  refine Con.of Tryz.func73 J Tryz.ntmps73 J (fun E => ?_)
  refine Wz [1,68,96,125,69,106,18,87,18,87,113,76] ?_;refine V6 (q_makec 1 J J J J (by omega) (by omega) (by omega) (by omega) J (by simp)) J ?_;refine Wz [23,63] ?_;refine Xi (fun m__ st=>∃ (k:Nat) (pos:Nat) (acc:List Int),c-k=m__∧(k≤c∧acc.length=k∧q+pos+(c-k)≤s.size+(c-k)∧q+pos≤s.size∧(uiGo s q (c-k) pos).map (fun r=>(acc++r.1,r.2))=uiGo s q c k0)∧st=(⟨_,[(0,S s),(1,I q),(7,I c),(8,I pos),(10,.o (.c (.ref 0))),(11,I k)],[.row 1 (els acc)]⟩:St)) _ ⟨_,⟨0,k0,[],J,⟨by omega,J,by omega,by omega,by simp⟩,J⟩,Gs [0]⟩ ?_
  rintro m_A _ ⟨k,pos,acc,hk_A,hp_A,rfl⟩
  obtain⟨hkc,hacc,_,hpos,hgo⟩:=hp_A
  have hla:=Y9 acc
  rw[←hgo]
  refine Wz [24,119] ?_
  refine Xb J (fun h => ?_) (fun h => ?_)
  ·have hlt:k<c:=by have:=Gqi h; omega
   have hd2:=Xr s ((q:Int)+(pos:Int)) hs ⟨by omega,by omega⟩
   obtain⟨f,hf⟩:∃ f,c-k=f+1:=⟨c-k-1,by omega⟩
   rw[hf]
   cases hv2:decVar s ((q:Int)+(pos:Int)) with
   |none =>
    rw[hv2] at hd2
    rw[show uiGo s q (f+1) pos=none by rw[uiGo,hv2]]
    refine Wz [123,46] ?_;refine V6 (Kh J J (hd2) J J J) J ?_;refine Wz [78,28,68,85,53] ?_
    exact Xq J J J J (Ye [1] [1] J J (by decide) J J J)
   |some r =>
    obtain⟨v,m⟩:=r
    rw[hv2] at hd2
    have hm2:=Y3 hv2
    have hsg:=I_Signed v ⟨by omega,by omega⟩
    refine Wz [123,46] ?_;refine V6 (Kh J J (hd2) J J J) J ?_;refine Wz [78,86] ?_;refine zx (Qj J J (hsg) J) J ?_;refine Wz [45,148,11,22,46,105] ?_
    refine⟨_,(by omega),(fun (k:Nat) (pos:Nat) (acc:List Int)=>(⟨_,[(0,S s),(1,I q),(7,I c),(8,I pos),(10,.o (.c (.ref 0))),(11,I k)],[.row 1 (els acc)]⟩:St)) (k+1) (pos+m) (acc ++ [signed v]),⟨k+1,pos+m,acc ++ [signed v],J,⟨by omega,by simp[hacc],by omega,by omega,by rw[uiGo,hv2,show c-(k+1)=f by omega]; simp[Option.map_map]; rfl⟩,J⟩,Yg [0] (by decide) J (K7 (els_snocI acc _)) (.c J (.c J (.c J (.c J (.c J (.c J (.nil)))))))⟩
  ·have hkk:k=c:=by have:=Gqj h; omega
   subst hkk
   rw[show uiGo s q (k-k) pos=some ([],pos) by rw[Gx9]; rfl]
   refine Wz [40,37,68,19] ?_
   exact Xq J J J J (Gr [0] J (K7 (by simp)) J)
theorem S_UnpackInts (s:ByteArray) (p:Int) (hs:s.size≤1099511627776) (hp:I64 p):Con Tryz.prog 270 [] [astr s,ai p] (uiO (unpackInts s p)) (uiR (unpackInts s p)):=by
 have hd:=X7 s p hs hp
 have h00:([]:List (List T)).length=0:=rfl
 cases hv:decVar s p with
 |none =>
  rw[hv] at hd
  rw[show unpackInts s p=none by rw[unpackInts,hv]]
  have hb0:decide ((0:Int)<0)=false:=rfl
  refine Con.of Tryz.func270 J Tryz.ntmps270 J (fun E => ?_)
  refine Wz [1,68,96,235,214,11,1,179,23,63] ?_;refine Xi (fun m st=>∃ k:Nat,k+m=1∧(k=0)∧st=(⟨_,[(7,I 0),(9,B false),(11,I k)],[]⟩:St)) (1) ⟨_,⟨0,by omega,J,J⟩,Gs []⟩ ?_
  rintro m_A _ ⟨k,hk_A,hp_A,rfl⟩
  subst hp_A
  refine Wz [24,5,0,114,7,61,25,16,28,179,68,31] ?_
  exact Xq J J J J (Gr [0] J J J)
 | some r =>
  obtain⟨n,k0⟩:=r
  rw[hv] at hd
  have hm:=Y3 hv
  obtain⟨q,rfl⟩:∃ q:Nat,p=q:=⟨p.toNat,by omega⟩
  obtain⟨c,rfl⟩:∃ c:Nat,n=c:=⟨n.toNat,by omega⟩
  rw[show unpackInts s q=uiGo s q c k0 by rw[unpackInts,hv]; rfl]
  refine Con.of Tryz.func270 J Tryz.ntmps270 J (fun E => ?_)
  refine Wz [1,68,96,235,214,11,1,179,23,63] ?_;refine Xi (fun m__ st=>∃ (k:Nat) (pos:Nat) (acc:List Int) (ok:Bool),c+1-k=m__∧(k≤c+1∧acc.length=k∧k≤s.size+1∧(ok=true→k≤c∧k+1≤pos∧q+pos≤s.size∧(uiGo s q (c-k) pos).map (fun r=>(acc++r.1,r.2))=uiGo s q c k0)∧(ok=false→uiGo s q c k0=none)∧pos≤s.size)∧st=(⟨_,[(0,S s),(1,I q),(7,I c),(8,I pos),(9,B ok),(10,.o (.c (.ref 0))),(11,I k)],[.row 1 (els acc)]⟩:St)) _ ⟨_,⟨0,k0,[],true,J,⟨by omega,J,by omega,fun _=>⟨by omega,by omega,by omega,by simp⟩,fun e=>(by cases e),by omega⟩,J⟩,Gs [0]⟩ ?_
  rintro m_A _ ⟨k,pos,acc,ok,hk_A,hp_A,rfl⟩
  obtain⟨hkc,hacc,hks,hok,hno,hps⟩:=hp_A
  have hla:=Y9 acc
  cases ok with
  | false =>
   rw[hno rfl]
   by_cases hlt:(k:Int)<c
   ·have hb:decide ((k:Int)<c)=true:=Gqb hlt
    refine Wz [24,5,18,0,9,61,25,16,28,179,68,31] ?_
    exact Xq J J J J (Gr [1] J J J)
   ·have hb:decide ((k:Int)<c)=false:=Gqa hlt
    refine Wz [24,5,0,114,7,61,25,16,28,179,68,31] ?_
    exact Xq J J J J (Gr [1] J J J)
  | true =>
   obtain⟨hkc2,hkp,hpos,hgo⟩:=hok rfl
   rw[←hgo]
   by_cases hlt:(k:Int)<c
   ·have hb:decide ((k:Int)<c)=true:=Gqb hlt
    have hd2:=X7 s ((q:Int)+(pos:Int)) hs ⟨by omega,by omega⟩
    obtain⟨f,hf⟩:∃ f,c-k=f+1:=⟨c-k-1,by omega⟩
    rw[hf]
    cases hv2:decVar s ((q:Int)+(pos:Int)) with
    |none =>
     rw[hv2] at hd2
     rw[show uiGo s q (f+1) pos=none by rw[uiGo,hv2]]
     have hsg:=S_Signed 0 ⟨by omega,by omega⟩
     refine Wz [24,5,18,0,9,15,123,46] ?_;refine V6 (Kh J J (hd2) J J J) J ?_;refine Wz [214,32,96,136,22,0] ?_;refine zx (Qj J J (hsg) J) J ?_;refine Wz [45,148,105] ?_
     refine⟨_,(by omega),(fun (k:Nat) (pos:Nat) (acc:List Int) (ok:Bool)=>(⟨_,[(0,S s),(1,I q),(7,I c),(8,I pos),(9,B ok),(10,.o (.c (.ref 0))),(11,I k)],[.row 1 (els acc)]⟩:St)) (k+1) (pos) (acc ++ [signed 0]) (false),⟨k+1,pos,acc ++ [signed 0],false,J,⟨by omega,by simp[hacc],by omega,fun e=>(by cases e),fun _=>rfl,hps⟩,J⟩,Yg [0] (by decide) J (K7 (els_snocI acc _)) (.c J (.c J (.c J (.c J (.c J (.c J (.c J (.nil))))))))⟩
    |some r =>
     obtain⟨v,m⟩:=r
     rw[hv2] at hd2
     have hm2:=Y3 hv2
     have hsg:=S_Signed v ⟨by omega,by omega⟩
     refine Wz [24,5,18,0,9,15,123,46] ?_;refine V6 (Kh J J (hd2) J J J) J ?_;refine Wz [214,32,96,136,22,0] ?_;refine zx (Qj J J (hsg) J) J ?_;refine Wz [45,148,105] ?_
     refine⟨_,(by omega),(fun (k:Nat) (pos:Nat) (acc:List Int) (ok:Bool)=>(⟨_,[(0,S s),(1,I q),(7,I c),(8,I pos),(9,B ok),(10,.o (.c (.ref 0))),(11,I k)],[.row 1 (els acc)]⟩:St)) (k+1) (pos+m) (acc ++ [signed v]) (true),⟨k+1,pos+m,acc ++ [signed v],true,J,⟨by omega,by simp[hacc],by omega,fun _=>⟨by omega,by omega,by omega,by rw[uiGo,hv2,show c-(k+1)=f by omega]; simp[Option.map_map]; rfl⟩,fun e=>(by cases e),by omega⟩,J⟩,Yg [0] (by decide) J (K7 (els_snocI acc _)) (.c J (.c J (.c J (.c J (.c J (.c J (.c J (.nil))))))))⟩
   ·have hb:decide ((k:Int)<c)=false:=Gqa hlt
    have hkk:k=c:=by omega
    subst hkk
    rw[show uiGo s q (k-k) pos=some ([],pos) by rw[Gx9]; rfl]
    refine Wz [24,5,0,114,7,61,25,16,86,68,19] ?_
    exact Xq J J J J (Gr [0] J (K7 (by simp)) J)
/-! ### Texts -/
def unpackText (s:ByteArray) (p:Int):Option (ByteArray×Nat):=match decVar s p with
 |none=>none
 |some (n,k)=>if (s.size:Int)-p-k<n then none else some (s.extract (p+k).toNat (p+k+n).toNat,k+n.toNat)
@[reducible] def utR:Option (ByteArray×Nat)→V
 |none => .tu [.c (.rd [] (.v (.string ⟨#[]⟩))),.c (jn 0),.c (bv false)]
 |some (t,k) => .tu [.c (.rd [] (.v (.string t))),.c (jn k),.c (bv true)]
theorem Vm {s t:ByteArray} {p:Int} {j:Nat} (h:unpackText s p=some (t,j)):0≤p∧1≤j∧p+j≤s.size∧t.size+1≤j∧t=s.extract (p+j-t.size).toNat (p+j).toNat:=by
 unfold unpackText at h
 split at h
 ·cases h
 ·rename_i n k hd
  have hm:=Y3 hd
  split at h
  ·cases h
  ·simp only[Option.some.injEq,Prod.mk.injEq] at h
   obtain⟨rfl,rfl⟩:=h
   have hsz:(s.extract (p+k).toNat (p+k+n).toNat).size=n.toNat:=by
    rw[Gxe]; omega
   refine⟨hm.1,by omega,by omega,by omega,?_⟩
   rw[hsz]
   congr 1 <;> omega
theorem tu3 {a b:V2} {x y:Int} (h:x=y):V.tu [a,.c (.rd [] (.v (.int .i64 x))),b]=V.tu [a,.c (.rd [] (.v (.int .i64 y))),b]:=by rw[h]
theorem Xw (s:ByteArray) (p:Int) (hs:s.size≤1099511627776) (hp:I64 p):Con Tryz.prog 71 [] [astr s,ai p] [] (utR (unpackText s p)):=by
 have hd:=Xr s p hs hp
 cases hv:decVar s p with
 |none =>
  rw[hv] at hd
  rw[show unpackText s p=none by rw[unpackText,hv]]
  refine Con.of Tryz.func71 J Tryz.ntmps71 J (fun E => ?_)
  refine Wz [1,68,96,125,20,165,9,28,68,31] ?_
  exact Xq J J J J (Gr [] J J J)
 | some r =>
  obtain⟨n,k⟩:=r
  rw[hv] at hd
  have hm:=Y3 hv
  by_cases hbig:(s.size:Int)-p-k<n
  ·have hb:decide ((s.size:Int)-p-k<n)=true:=Gqb hbig
   rw[show unpackText s p=none by rw[unpackText,hv]; exact if_pos hbig]
   refine Con.of Tryz.func71 J Tryz.ntmps71 J (fun E => ?_)
   refine Wz [1,68,96,125,69,106,18,87,18,87,113,28,68,31] ?_
   exact Xq J J J J (Gr [] J J J)
  have hb:decide ((s.size:Int)-p-k<n)=false:=Gqa hbig
  rw[show unpackText s p=some (s.extract (p+k).toNat (p+k+n).toNat,k+n.toNat) by rw[unpackText,hv]; exact if_neg hbig]
  refine Con.of Tryz.func71 J Tryz.ntmps71 J (fun E => ?_)
  refine Wz [1,68,96,125,69,106,18,87,18,87,113,86,46,0,46,46,200,0,46,68,19] ?_
  exact Xq J J J J (Gr [] J J (tu3 (by omega)))
theorem S_UnpackText (s:ByteArray) (p:Int) (hs:s.size≤1099511627776) (hp:I64 p):Con Tryz.prog 285 [] [astr s,ai p] [] (utR (unpackText s p)):=by
 have hd:=X7 s p hs hp
 cases hv:decVar s p with
 |none =>
  rw[hv] at hd
  rw[show unpackText s p=none by rw[unpackText,hv]]
  refine Con.of Tryz.func285 J Tryz.ntmps285 J (fun E => ?_)
  refine Wz [1,68,96,125,20,165,9,28,68,31] ?_
  exact Xq J J J J (Gr [] J J J)
 | some r =>
  obtain⟨n,k⟩:=r
  rw[hv] at hd
  have hm:=Y3 hv
  by_cases hbig:(s.size:Int)-p-k<n
  ·have hb:decide ((s.size:Int)-p-k<n)=true:=Gqb hbig
   rw[show unpackText s p=none by rw[unpackText,hv]; exact if_pos hbig]
   refine Con.of Tryz.func285 J Tryz.ntmps285 J (fun E => ?_)
   refine Wz [1,68,96,125,69,106,18,87,18,87,113,28,68,31] ?_
   exact Xq J J J J (Gr [] J J J)
  have hb:decide ((s.size:Int)-p-k<n)=false:=Gqa hbig
  rw[show unpackText s p=some (s.extract (p+k).toNat (p+k+n).toNat,k+n.toNat) by rw[unpackText,hv]; exact if_neg hbig]
  refine Con.of Tryz.func285 J Tryz.ntmps285 J (fun E => ?_)
  refine Wz [1,68,96,125,69,106,18,87,18,87,113,86,46,0,46,46,200,0,46,68,19] ?_
  exact Xq J J J J (Gr [] J J (tu3 (by omega)))
def openText (s:ByteArray):Option ByteArray:=if s.size<4 then none else if sealText (s.extract 4 s.size)=s then some (s.extract 4 s.size) else none
@[reducible] def otR:Option ByteArray→V
 |none => .tu [.c (.rd [] (.v (.string ⟨#[]⟩))),.c (bv false)]
 |some t => .tu [.c (.rd [] (.v (.string t))),.c (bv true)]
theorem openText_some {s t:ByteArray} (h:openText s=some t):sealText t=s∧t.size+4=s.size:=by
 unfold openText at h
 split at h
 ·cases h
 ·split at h
  ·rename_i h1 h2
   simp only[Option.some.injEq] at h
   subst h
   refine⟨h2,?_⟩
   have:=congrArg ByteArray.size h2
   rw[sealText_size] at this
   exact this
  ·cases h
theorem openText_seal (t:ByteArray):openText (sealText t)=some t:=by
 have h1:=sealText_size t
 have h2:(sealText t).extract 4 (sealText t).size=t:=by
  rw[←bs_of ((sealText t).extract 4 (sealText t).size),Zh,h1]
  have h3:(sealText t).data.toList=seal4 (checksum t)++t.data.toList:=by
   show (bs (seal4 (checksum t))++t).data.toList=_
   rw[Gxo]
   simp
  rw[h3,List.drop_append_of_le_length (by simp[seal4]),show List.drop 4 (seal4 (checksum t)) = [] from rfl,List.nil_append,show t.size+4-4=t.data.toList.length by simp,Gq1,bs_of]
 rw[openText,if_neg (by omega),h2,if_pos rfl]
theorem I_OpenText (s:ByteArray) (hs:s.size≤1099511627776):Con Tryz.prog 70 [] [astr s] [] (otR (openText s)):=by
 by_cases h4:s.size<4
 ·have hb:decide ((s.size:Int)<4)=true:=Gqb (by omega)
  rw[show openText s=none by rw[openText,if_pos h4]]
  refine Con.of Tryz.func70 J Tryz.ntmps70 J (fun E => ?_)
  refine Wz [1,34,52,143,5,28,34,31] ?_
  exact Xp J J J (Gr [] J J J)
 have hb:decide ((s.size:Int)<4)=false:=Gqa (by omega)
 have hsz:(s.extract (4:Int).toNat s.size).size≤1099511627776:=by rw[Gxe]; omega
 have hsl:=I_SealText (s.extract (4:Int).toNat s.size) hsz
 by_cases he:sealText (s.extract (4:Int).toNat s.size)=s
 ·have hb2:decide (sealText (s.extract (4:Int).toNat s.size)≠s)=false:=Gqa fun h=>h he
  rw[show openText s=some (s.extract (4:Int).toNat s.size) by rw[openText,if_neg h4]; exact if_pos he]
  refine Con.of Tryz.func70 J Tryz.ntmps70 J (fun E => ?_)
  refine Wz [1,34,52,143,5,76,215,52] ?_;refine zx (Qj J J (hsl) J) J ?_;refine Wz [0,201,76,34,19] ?_
  exact Xp J J J (Gr [] J J J)
 ·have hb2:decide (sealText (s.extract (4:Int).toNat s.size)≠s)=true:=Gqb he
  rw[show openText s=none by rw[openText,if_neg h4]; exact if_neg he]
  refine Con.of Tryz.func70 J Tryz.ntmps70 J (fun E => ?_)
  refine Wz [1,34,52,143,5,76,215,52] ?_;refine zx (Qj J J (hsl) J) J ?_;refine Wz [0,201,28,34,31] ?_
  exact Xp J J J (Gr [] J J J)
end
section
open Go.RowKit

def utGo (s:ByteArray):Nat→Nat→List Int→Option (List Int)
 |0,pos,acc=>some acc
 | f+1,pos,acc=>if pos<s.size then (match decVar s (pos:Int) with
   |none=>none
   |some (n,k)=>if 400-(acc.length:Int)<n/16 then none else utGo s f (pos+k) (acc++List.replicate (n/16).toNat (n%16))) else some acc
def unpackTrack (s:ByteArray):Option (List Int):=match utGo s s.size 0 [] with
 |none=>none
 |some l=>if packTrack l=s then some l else none
@[reducible] def utrO:Option (List Int)→List Ob
 |none => [.row 1 []]
 |some l => [.row 1 (els l)]
@[reducible] def utrR:Option (List Int)→V
 |none => .tu [.c (.ref 0),.c (bv false)]
 |some _ => .tu [.c (.ref 0),.c (bv true)]
theorem gd_small {l:List Int} (h1:l.length≤400) (h2:∀ x∈l,I64 x):Enc.gd l:=⟨by omega,h2⟩
theorem els_rep (acc:List Int) (k:Nat) (v:Int):els (acc++List.replicate (k+1) v)=els (acc++List.replicate k v) ++ [[.v (.int .i64 v)]]:=by
 rw[List.replicate_succ',←Gqn,els_snocI]
theorem utGo_end {s:ByteArray} {pos:Nat} (h:¬pos<s.size) (f:Nat) (acc:List Int):utGo s f pos acc=some acc:=by
 cases f with
 |zero=>rfl
 |succ f=>rw[utGo,if_neg h]
theorem I_UnpackTrack (s:ByteArray) (hs:s.size≤1099511627776):Con Tryz.prog 153 [] [astr s] (utrO (unpackTrack s)) (utrR (unpackTrack s)):=by
 have h00:([]:List (List T)).length=0:=rfl
 refine Con.of Tryz.func153 J Tryz.ntmps153 J (fun E => ?_)
 refine Wz [1,34,11,36,12,63] ?_
 refine AWP.pre ?_ (W_nil 4 1 J)
 refine Xi (fun m__ st=>∃ (pos:Nat) (acc:List Int) (f:Nat),s.size-pos=m__∧(s.size≤pos+f∧pos≤s.size∧acc.length≤400∧(∀ x∈acc,I64 x)∧utGo s f pos acc=utGo s s.size 0 [])∧st=(⟨_,[(0,S s),(4,.o (.c (.ref 0))),(5,I pos)],[.row 1 (els acc)]⟩:St)) _ ⟨_,⟨0,[],s.size,J,⟨by omega,by omega,by simp,by simp,J⟩,J⟩,Gs [0]⟩ ?_
 rintro m_A _ ⟨pos,acc,f,hk_A,hp_A,rfl⟩
 obtain⟨hfu,hps,hal,hag,hgo⟩:=hp_A
 have hla:=Y9 acc
 by_cases hlt:(pos:Int)<s.size
 ·have hb:decide ((pos:Int)<s.size)=true:=Gqb hlt
  have hd:=Xr s (pos:Int) hs ⟨by omega,by omega⟩
  obtain⟨g,rfl⟩:∃ g,f=g+1:=⟨f-1,by omega⟩
  cases hv:decVar s (pos:Int) with
  |none =>
   rw[hv] at hd
   rw[show unpackTrack s=none by rw[unpackTrack,←hgo,utGo,if_pos (by omega),hv]]
   refine Wz [50,57,124,37,125,20,135,9,28,34,85,134,73] ?_
   exact Xp J J J (Ye [1] [1] J J (by decide) J J J)
  | some r =>
   obtain⟨n,k⟩:=r
   rw[hv] at hd
   have hm:=Y3 hv
   by_cases hbig:400-((els acc).length:Int)<n/16
   ·have hb2:decide (400-((els acc).length:Int)<n/16)=true:=Gqb hbig
    rw[show unpackTrack s=none by rw[unpackTrack,←hgo,utGo,if_pos (by omega),hv]; simp only[]; rw[if_pos (by omega)]]
    refine Wz [50,57,124,37,125,8,155,3,18,58,87,113,28,34,85,134,73] ?_
    exact Xp J J J (Ye [1] [1] J J (by decide) J J J)
   have hb2:decide (400-((els acc).length:Int)<n/16)=false:=Gqa hbig
   obtain⟨m,hm16⟩:∃ m:Nat,n/16=m:=⟨(n/16).toNat,by omega⟩
   refine Wz [50,57,124,37,125,8,155,3,18,58,87,113,97,72,63] ?_;refine Xi (fun m__ st=>∃ (k2:Nat),m-k2=m__∧(k2≤m)∧st=(⟨_,[(0,S s),(4,.o (.c (.ref 0))),(5,I pos),(6,I n),(7,I k),(9,I k2)],[.row 1 (els (acc++List.replicate k2 (n%16)))]⟩:St)) _ ⟨(fun (k2:Nat)=>(⟨_,[(0,S s),(4,.o (.c (.ref 0))),(5,I pos),(6,I n),(7,I k),(9,I k2)],[.row 1 (els (acc++List.replicate k2 (n%16)))]⟩:St)) (0),⟨0,J,Gq2 _,J⟩,Yg [0] (by decide) J (K7 (by simp)) (.c J (.c J (.c J (.c J (.c J (.c J (.nil)))))))⟩ ?_
   rintro m_B _ ⟨k2,hk_B,hp_B,rfl⟩
   have hlb:=Y9 (acc++List.replicate k2 (n%16))
   have hlc:(acc++List.replicate k2 (n%16)).length=acc.length+k2:=by simp
   refine Wz [24,155,119] ?_
   refine Xb J (fun h => ?_) (fun h => ?_)
   ·have h:=Gqi h
    refine Wz [26,22,0,111,45,148,105] ?_
    refine⟨_,(by omega),(fun (k2:Nat)=>(⟨_,[(0,S s),(4,.o (.c (.ref 0))),(5,I pos),(6,I n),(7,I k),(9,I k2)],[.row 1 (els (acc++List.replicate k2 (n%16)))]⟩:St)) (k2+1),⟨k2+1,J,by omega,J⟩,Yg [0] (by decide) J (K7 (els_rep acc k2 (n%16))) (.c J (.c J (.c J (.c J (.c J (.c J (.nil)))))))⟩
   ·have h:=Gqj h
    have hk2:k2=m:=by omega
    subst hk2
    refine Wz [40,22,46,127] ?_
    refine⟨_,(by omega),_,⟨pos+k,acc++List.replicate k2 (n%16),g,rfl,⟨by omega,by omega,by omega,fun x hx=>by rcases Gqm.1 hx with hx | hx; exact hag x hx; have:=Gx5 hx; exact⟨by omega,by omega⟩,by rw[←hgo,utGo,if_pos (by omega),hv]; simp only[]; rw[if_neg (by omega),hm16]; rfl⟩,rfl⟩,Gs [0]⟩
 ·have hb:decide ((pos:Int)<s.size)=false:=Gqa hlt
  have hut:=utGo_end (s:=s) (pos:=pos) (by omega) f acc
  have hpk:=I_PackTrack acc (gd_small hal hag)
  by_cases he:packTrack acc=s
  ·have hb2:decide (packTrack acc≠s)=false:=Gqa fun h=>h he
   rw[show unpackTrack s=some acc by rw[unpackTrack,←hgo,hut]; exact if_pos he]
   refine Wz [50,5,61,25] ?_;refine zx (Qj J J (hpk) J) J ?_;refine Wz [0,201,76,34,19] ?_
   exact Xp J J J (Gr [0] J J J)
  ·have hb2:decide (packTrack acc≠s)=true:=Gqb he
   rw[show unpackTrack s=none by rw[unpackTrack,←hgo,hut]; exact if_neg he]
   refine Wz [50,5,61,25] ?_;refine zx (Qj J J (hpk) J) J ?_;refine Wz [0,201,28,34,31] ?_
   exact Xp J J J (Ye [1] [1] J J (by decide) J J J)
end
section
open Go.RowKit

theorem flat_one {fps:List (List (List Nat))} {i j:Nat} {G:List (List Nat)} {f:List Nat} (hi:fps[i]? = some G) (hj:G[j]? = some f):∃ X Z:List Nat,fps.flatten.flatten=X++f++Z∧∀ f':List Nat,(fps.set i (splice G j [f'])).flatten.flatten=X++f'++Z:=by
 obtain⟨hlt,he⟩:=Gqo.1 hi
 obtain⟨hlj,hf⟩:=Gqo.1 hj
 refine⟨(fps.take i).flatten.flatten++(G.take j).flatten,(G.drop (j+1)).flatten++(fps.drop (i+1)).flatten.flatten,?_,fun f' => ?_⟩
 ·conv=>lhs; rw[←Gx1 i fps,Gza hlt,he]
  have hG:G.flatten=(G.take j).flatten++f++(G.drop (j+1)).flatten:=by
   conv=>lhs; rw[←Gx1 j G,Gza hlj,hf]
   simp[Gqn]
  rw[Gqw,List.flatten_cons,Gqw,Gqw,hG]
  simp[Gqn]
 ·rw[List.set_eq_take_append_cons_drop,if_pos hlt]
  rw[Gqw,List.flatten_cons,Gqw,Gqw,splice,Gqw,Gqw]
  simp[Gqn]

theorem sep_list {l:List (List Nat)} (hn:l.flatten.Nodup) {i j:Nat} {f g:List Nat} (hi:l[i]? = some f) (hj:l[j]? = some g) (hij:i≠j) {x:Nat} (hx:x∈f) (hy:x∈g):False:=by
 obtain⟨hp,hq⟩:=List.pairwise_flatten.1 hn
 obtain⟨h1,rfl⟩:=Gqo.1 hi
 obtain⟨h2,rfl⟩:=Gqo.1 hj
 rcases Nat.lt_or_gt_of_ne hij with h | h
 ·exact (List.pairwise_iff_getElem.1 hq i j h1 h2 h) x hx x hy rfl
 ·exact (List.pairwise_iff_getElem.1 hq j i h2 h1 h) x hy x hx rfl
theorem sep_elems {fps:List (List (List Nat))} (hn:fps.flatten.flatten.Nodup) {i i' j j':Nat} {G G':List (List Nat)} {f g:List Nat} (hi:fps[i]? = some G) (hi':fps[i']? = some G') (hii:i≠i') (hf:G[j]? = some f) (hg:G'[j']? = some g) {x:Nat} (hx:x∈f) (hy:x∈g):False:=by
 have h1:(fps.map List.flatten).flatten=fps.flatten.flatten:=by simp[List.flatten_flatten]
 rw[←h1] at hn
 exact sep_list hn (i:=i) (j:=i') (f:=G.flatten) (g:=G'.flatten) (by simp[hi]) (by simp[hi']) hii (Gxt.2 ⟨f,Zl hf,hx⟩) (Gxt.2 ⟨g,Zl hg,hy⟩)
theorem sep_cells {fps:List (List (List Nat))} (hn:fps.flatten.flatten.Nodup) {i j j':Nat} {G:List (List Nat)} {f g:List Nat} (hi:fps[i]? = some G) (hf:G[j]? = some f) (hg:G[j']? = some g) (hjj:j≠j') {x:Nat} (hx:x∈f) (hy:x∈g):False:=by
 have h1:(fps.map List.flatten).flatten=fps.flatten.flatten:=by simp[List.flatten_flatten]
 rw[←h1] at hn
 obtain⟨hp,_⟩:=List.pairwise_flatten.1 hn
 exact sep_list (hp G.flatten (Gqr.2 ⟨G,Zl hi,J⟩)) hf hg hjj hx hy

theorem OW.inner {w:World} {k:Nat} {es:List (List T)} {v:Value} {fp:List Nat} (h:OW w (.sl k es) v fp) (hnd:fp.Nodup) {i j k':Nat} {e:List T} {es0:List (List T)} (hi:es[i]? = some e) (hj:e[j]? = some (.sl k' es0)) :
  ∃ b o c u f,v = .slice (some ⟨b,o,none⟩) es.length c∧b∈fp∧w.cell? ⟨b,o+i*k+j,none⟩=some u∧OW w (.sl k' es0) u f∧f.Nodup∧(∀ x∈f,x∈fp) ∧
   ∀ (w':World) (t1:T) (f':List Nat),(∀ x∈fp,x∉f→w'.heap[x]? = w.heap[x]?)→OW w' t1 u f'→f'.Nodup→(∀ x∈f',x∈f∨w.heap.size≤x)→(∀ x∈fp,x<w.heap.size) →
    ∃ fp',OW w' (.sl k (es.set i (splice e j [t1]))) v fp'∧fp'.Nodup∧∀ x∈fp',(x∈fp∧x∉f)∨x∈f':=by
 rcases h.open_ with ⟨rfl,rfl,rfl⟩ | ⟨b,o,c,tid,cur,fz,val,fps,rfl,rfl,hg,hz,hc,hcm,hcs,hp,hk,hff,hfk,hv,ht⟩
 ·simp at hi
 have hil:=Zk hi
 have hek:e.length=k:=hk e (Zl hi)
 have hjl:=Zk hj
 rw[hek] at hjl
 have hfi:fps[i]? = some fps[i]:=Gqd (by omega)
 have hfik:(fps[i]'(by omega)).length=k:=hfk _ (Gql _)
 obtain⟨G,hG⟩:∃ G,G=fps[i]'(by omega):=⟨_,rfl⟩
 rw[←hG] at hfi hfik
 obtain⟨f,hf⟩:∃ f,G[j]? = some f:=⟨_,Gqd (by omega)⟩
 obtain⟨X,Z,e1,e2⟩:=flat_one hfi hf
 have hndc:=Gxq.1 hnd
 have hndf:=hndc.2
 rw[e1] at hndf
 obtain⟨n1,n2,n3⟩:=List.nodup_append.1 hndf
 obtain⟨n4,n5,n6⟩:=List.nodup_append.1 n1
 have hbf:b∉f:=fun hb=>hndc.1 (mem_ff hfi hf hb)
 refine⟨b,o,c,val i j,f,J,by simp,?_,ht i j e _ G f hi hj hfi hf,n5,fun x hx=>Gq6 _ (mem_ff hfi hf hx),fun w' t1 f' hw hO hn' hf' hlt => ?_⟩
 ·rw[cell_of_row w b _ cur tid fz hg]
  exact hv i j hil hjl
 have hset:(es.set i (splice e j [t1])).length=es.length:=by simp
 have hfr:∀ (i' j':Nat) (e':List T) (t:T) (fs:List (List Nat)) (g:List Nat),es[i']? = some e'→e'[j']? = some t→fps[i']? = some fs→fs[j']? = some g→(∀ x∈g,x∉f)→OW w' t (val i' j') g:=fun i' j' e' t fs g g1 g2 g3 g4 hd =>
  (ht i' j' e' t fs g g1 g2 g3 g4).frame fun x hx=>hw x (Gq6 _ (mem_ff g3 g4 hx)) (hd x hx)
 have hold:∀ x∈X++f++Z,x<w.heap.size:=fun x hx=>hlt x (Gq6 _ (by rw[e1]; exact hx))
 have hdX:∀ x∈X,x∉f':=fun x hx hx'=>by
  rcases hf' x hx' with h1 | h1
  ·exact n6 x hx x h1 rfl
  ·have:=hold x (by simp[hx]); omega
 have hdZ:∀ x∈Z,x∉f':=fun x hx hx'=>by
  rcases hf' x hx' with h1 | h1
  ·exact n3 x (by simp[h1]) x hx rfl
  ·have:=hold x (by simp[hx]); omega
 refine⟨b::(fps.set i (splice G j [f'])).flatten.flatten,?_,?_,?_⟩
 ·rw[←hset]
  refine .sl _ b o k c tid cur fz val _ (by rw[hw b (by simp) hbf]; exact hg) hz (by rw[hset]; exact hc) hcm hcs hp ?_ (by simp[hff]) ?_ (fun i' j' hi' hj'=>hv i' j' (by rw[←hset]; exact hi') hj') fun i' j' e' t' fs' g' g1 g2 g3 g4 => ?_
  ·intro e' he'
   rcases Gzb he' with he' | rfl
   ·exact hk e' he'
   ·rw[splice_len (by simp; omega),hek]
  ·intro g hg'
   rcases Gzb hg' with hg' | rfl
   ·exact hfk g hg'
   ·rw[splice_len (by simp; omega),hfik]
  ·rw[List.getElem?_set] at g1 g3
   by_cases hii:i=i'
   ·subst hii
    simp only[hil,if_true,Option.some.injEq] at g1
    rw[if_pos rfl,if_pos (by omega)] at g3
    simp only[Option.some.injEq] at g3
    subst g1 g3
    rw[splice_at (by simp; omega)] at g2 g4
    by_cases hcond:j≤j'∧j'<j+1
    ·have hjj:j'=j:=by omega
     subst hjj
     rw[if_pos (by simp)] at g2 g4
     simp at g2 g4
     subst g2 g4
     exact hO
    ·rw[if_neg (by simpa using hcond)] at g2 g4
     refine hfr i j' e t' G g' hi g2 hfi g4 fun x hx hxf => ?_
     -- two cells of one element own different blocks
     obtain⟨X2,Z2,e3,e4⟩:=flat_one hfi g4
     exact sep_cells hndc.2 hfi hf g4 (fun e=>hcond ⟨by omega,by omega⟩) hxf hx
   ·rw[if_neg hii] at g1 g3
    refine hfr i' j' e' t' fs' g' g1 g2 g3 g4 fun x hx hxf => ?_
    exact sep_elems hndc.2 hfi g3 hii hf g4 hxf hx
 ·rw[e2]
  refine Gxq.2 ⟨fun hb => ?_,List.nodup_append.2 ⟨List.nodup_append.2 ⟨n4,hn',fun x hx y hy e=>hdX x hx (e▸hy)⟩,n2,fun x hx y hy e => ?_⟩⟩
  ·rcases Gqm.1 hb with hb | hb
   ·rcases Gqm.1 hb with hb | hb
    ·exact hndc.1 (by rw[e1]; simp[hb])
    ·rcases hf' b hb with h1 | h1
     ·exact hbf h1
     ·have:=hlt b (by simp); omega
   ·exact hndc.1 (by rw[e1]; simp[hb])
  ·rcases Gqm.1 hx with hx | hx
   ·exact n3 x (by simp[hx]) y hy e
   ·exact hdZ y hy (e▸hx)
 ·rw[e2,e1]
  intro x hx
  rcases List.mem_cons.1 hx with rfl | hx
  ·exact .inl ⟨by simp,hbf⟩
  ·rcases Gqm.1 hx with hx | hx
   ·rcases Gqm.1 hx with hx | hx
    ·exact .inl ⟨by simp[hx],fun h=>n6 x hx x h rfl⟩
    ·exact .inr hx
   ·exact .inl ⟨by simp[hx],fun h=>n3 x (by simp[h]) x hx rfl⟩

section
variable {P:Program} {E:Env} {ops:Array Oper} {o:Oper} {st:St} {rest:List Oper} {QQ:Exit→St→Prop} {w:World} {H:Hs} {F:Nat→Prop} {a:Act} {t:TypeId} {y:Operand} {n:Nat}
theorem q_lee {p kk i j:Nat} {es:List (List T)} {e:List T} {x:T} [TyOne P t] (ho:o.op = .load t y) (hg:o.guard=none) (hy:st.ev y = .o (.c (.el p kk i j))) (hp:st.objs[p]? = some (.row kk es)) (he:es[i]? = some e) (hx:e[j]? = some x):Qt P ops o st (.o (.c (.le p kk i j))) [] n :=
 .pure hg fun a w H F hr=>by
  obtain⟨b,o',e1,hc⟩:=el_cells hr hy hp he
  obtain⟨u,h1,h2⟩:=hc 0 x (by simpa using hx)
  refine⟨u,Zf ho e1 (K9 t b o' u h1),?_⟩
  obtain⟨b2,o2,n2,c2,x2,fp2,k1,k2⟩:=hr.v1 hy
  obtain⟨v,fp,k3,k4⟩:=hr.ow hp
  rw[k1] at k3
  simp only[Pc.ow.injEq] at k3
  obtain⟨_,rfl,rfl⟩:=k3
  rw[e1] at k2
  simp only[Value.pointer.injEq,Option.some.injEq,Addr.mk.injEq] at k2
  obtain⟨rfl,rfl,_⟩:=k2
  refine⟨b,o2,n2,c2,x2,fp2,k1,?_,RO.one h2,by simpa using h1⟩
  rcases k4.open_ with ⟨k5,_⟩ | ⟨b',o',c',tid,cur,fz,val,fps,k5,k6,_⟩
  ·cases k5
  ·simp only[Value.slice.injEq,Option.some.injEq,Addr.mk.injEq] at k5
   rw[k6,k5.1.1]; simp

end
end
end Go.Proofs.YtpmacgnmlmmojaaGreatDoor
