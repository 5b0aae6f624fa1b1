/-
  Rules, data and contracts of functions: part 22 of the proof.
  Conditions: those that each theorem names.
-/
import Derived.Test.YtalaljeokcpfnaaGreatDDPlayRowk19
set_option linter.unusedSimpArgs false
set_option linter.unusedVariables false
set_option maxRecDepth 8000
set_option maxHeartbeats 8000000
namespace Go.Proofs.YtalaljeokcpfnaaGreat
section
open Tryz
open Go.RowKit

def dvGo (s:ByteArray) (p:Nat) (n:Int) (k:Nat):Nat→Option (Int×Nat)
 |0=>none
 | f+1=>if p+k<s.size then
   (if 128≤byteAt s (p+k) then dvGo s p (n+byteAt s (p+k)%128*2 ^ (7*k)) (k+1) f
    else if (byteAt s (p+k)=0∧0<k)∨1099511627775<n+byteAt s (p+k)%128*2 ^ (7*k) then none
    else some (n+byteAt s (p+k)%128*2 ^ (7*k),k+1)) else none
def decVar (s:ByteArray) (p:Int):Option (Int×Nat):=if 0≤p∧p<s.size then dvGo s p.toNat 0 0 6 else none
@[reducible] def bv (b:Bool):V1 := .rd [] (.v (.bool b))
@[reducible] def jn (n:Int):V1:=(Aqh n)
@[reducible] def dvR:Option (Int×Nat)→V
 |none => .tu [.c (jn 0),.c (jn 0),.c (bv false)]
 |some (n,k) => .tu [.c (jn n),.c (jn k),.c (bv true)]
theorem pow7 {k:Nat} (h:k≤6):∃ M:Nat,2 ^ (7*k)=M∧1≤M∧M≤4398046511104:=by
 refine⟨_,J,Nat.one_le_two_pow,?_⟩
 exact Gxo (Nat.pow_le_pow_right Aqa (show 7*k≤42 by omega)) Aqc 
theorem pow7s (k:Nat):2 ^ (7*(k+1))=128*2 ^ (7*k):=by
 rw[show 7*(k+1)=7*k+7 by omega,Nat.pow_add]
 omega
theorem dv_part {c:Int} {M:Nat} (h0:0≤c) (h1:c<128):0≤c*(M:Int)∧c*(M:Int)≤127*M:=by
 refine⟨Int.mul_nonneg h0 Aqa,Int.mul_le_mul_of_nonneg_right Aqa Aqa⟩
theorem pow7i (k:Nat):(2:Int) ^ (7*(k:Int)).toNat=((2 ^ (7*k):Nat):Int):=by
 rw[show (7*(k:Int)).toNat=7*k by omega]
 norm_cast
theorem Xt (s:ByteArray) (p:Int) (hs:s.size≤1099511627776) (hp:I64 p):Co 234 [] [astr s,ai p] [] (dvR (decVar s p)):=by
 obtain⟨hp1,hp2⟩:=hp
 by_cases hin:¬(0≤p∧p<s.size)
 ·rw[show decVar s p=none by rw[decVar,if_neg hin]]
  refine Con.o func234 ntmps234 fun E=>?_;refine Wz [3,134,40,160,103,281] ?_;refine zx (Qt.grdF J J J (.hit (.hit .stop)) (fun hgrd=>Vd J J J)) J ?_;refine zx (Qt.grdF J J J (.hit (.hit (.hit .stop))) (fun hgrd=>Kx J J J J)) J ?_;refine Wz [75] ?_
  refine Xb J (fun h=>?_) (fun h=>?_)
  ·refine Wz [3,134,26,53] ?_
   refine Wz [302,177,89] ?_
   exact Bzn
  ·simp only[Gqm,decide_eq_false_iff_not] at h
   omega
 have hin:=Classical.not_not.1 hin
 obtain⟨q,rfl⟩:∃ q:Nat,p=q:=⟨p.toNat,Aqa⟩
 rw[show decVar s q=dvGo s q 0 0 6 by rw[decVar,if_pos hin]; rfl]
 have hb1:decide ((q:Int)<0)=false:=Gqa Aqa 
 have hb2:decide ((s.size:Int)≤q)=false:=Gqa Aqa 
 refine Con.o func234 ntmps234 fun E=>?_;refine Wz [3,134,143,14,21,38,2,169,5,28,23,107] ?_;refine Xj (fun m__ st=>∃ (k:Nat) (n:Int),6-k=m__∧(k≤6∧0≤n∧n<((2 ^ (7*k):Nat):Int)∧dvGo s q n k (6-k)=dvGo s q 0 0 6)∧st=(⟨_,[(0,S s),(1,I q),(7,I n),(8,I k)],[]⟩:St)) _ ⟨_,⟨0,0,J,⟨Aqa,Aqa,Aqd,J⟩,J⟩,Yj [] Aqb⟩ ?_
 rintro m_A _ ⟨k,n,hk_A,hp_A,rfl⟩
 obtain⟨hk6,hn0,hn1,hgo⟩:=hp_A
 obtain⟨M,hM,hM1,hM2⟩:=pow7 hk6
 have hMs:=pow7s k
 rw[hM] at hn1 hMs
 rw[←hgo]
 refine Wz [41,160,0,171,252] ?_;refine zx (Qt.grdT J J J (.hit (.hit .stop)) (fun hgrd=>Vd J J J)) J ?_;refine zx (Qt.grdT J J J (.hit (.hit (.hit .stop))) (fun hgrd=>Qa J J J)) J ?_;refine zx (Qt.grdT J J J (.hit (.hit (.hit (.hit .stop)))) (fun hgrd=>Xc J J J J Aqa)) J ?_;refine zx (Qt.grdT J J J (.hit (.hit (.hit (.hit (.hit .stop))))) (fun hgrd=>Vh J J J J)) J ?_;refine Wz [66,1] ?_
 refine Xb J (fun h=>?_) (fun h=>?_)
 ·simp only[Gqh,decide_eq_true_eq] at h
  have hlt:q+k<s.size:=Aqa
  obtain⟨f,hf⟩:∃ f,6-k=f+1:=⟨5-k,Aqa⟩
  obtain⟨c,hc⟩:∃ c,byteAt s (q+k)=c:=⟨_,rfl⟩
  have hcr:=Yy s (q+k)
  rw[hc] at hcr
  have hc1:byteAt s ((q:Int)+(k:Int)).toNat=c:=by rw[←hc]; congr 1
  obtain⟨d,hd⟩:∃ d:Nat,c%128=d:=⟨(c%128).toNat,Aqa⟩
  have hd1:c.toNat &&& (127:Int).toNat=d:=by
   rw[show (127:Int).toNat=2 ^ 7-1 from rfl,Gx9]
   omega
  have hdM:=dv_part (c:=d) (M:=M) Aqa Aqa 
  obtain⟨r,hr⟩:∃ r,(d:Int)*M=r:=⟨_,rfl⟩
  rw[hr] at hdM
  have hr1:(d:Int)*2 ^ (7*(k:Int)).toNat=r:=by rw[pow7i,hM,hr]
  have hgo1:dvGo s q n k (f+1)=if 128≤c then dvGo s q (n+r) (k+1) f else if (c=0∧0<k)∨1099511627775<n+r then none else some (n+r,k+1):=by
   have h9:c%128*2 ^ (7*k)=r:=by
    rw[hd,←hr,←hM]
    norm_cast
   rw[dvGo,if_pos hlt,hc,h9]
  rw[hf,hgo1]
  by_cases h7:128≤c
  ·have hb7:decide (128≤c)=true:=Gqb h7
   refine Wz [9,50,13,168,8,10,286,189,0,144,287,13,40,169,32,190,191,27,49] ?_
   refine⟨_, Aqa,_,⟨k+1,n+r,J,⟨Aqa,Aqa,by rw[hMs]; omega,by rw[if_pos h7,show 6-(k+1)=f by omega]⟩,J⟩,Yj [] Aqb⟩
  have hb7:decide (128≤c)=false:=Gqa h7
  rw[if_neg h7]
  refine Wz [9,50,13,168,8,10,286,189,0,144,287,13,40,169,28,41,216,0,171] ?_;refine zx (Qt.grdT J J J (.hit .stop) (fun hgrd=>Kz J J J J)) J ?_;refine Wz [66,103,239,75] ?_
  refine Xb J (fun h8=>?_) (fun h8=>?_)
  ·simp only[Gqq,Gqh,decide_eq_true_eq] at h8
   rw[if_pos Aqa]
   refine Wz [3,134,155,93,161,89] ?_
   exact Bzn
  ·simp only[Gqm,Gxp,decide_eq_false_iff_not] at h8
   rw[if_neg Aqa]
   refine Wz [42,10,13,134,155,57] ?_
   exact Bzn
 ·simp only[Gxp,decide_eq_false_iff_not] at h
  rw[show dvGo s q n k (6-k)=none by
   cases hf:6-k with
   |zero=>rfl
   |succ f=>rw[dvGo,if_neg Aqa]]
  refine Wz [30,3,134,36] ?_
  exact Bzn
theorem or_add {n r M:Nat} {k d:Nat} (hM:2 ^ (7*k)=M) (hn:n<M) (hr:d*M=r):n ||| r=n+r:=by
 subst hM
 rw[←hr,Nat.mul_comm,Nat.add_comm,Nat.or_comm]
 exact (Nat.two_pow_add_eq_or_of_lt hn d).symm
def bytesL (s:ByteArray) (p k:Nat):List UInt8:=(s.data.toList.drop p).take k
theorem byteAt_list {s:ByteArray} {i:Nat} (h:i<s.size):∃ b:UInt8,s.data.toList[i]? = some b∧byteAt s i=(b.toNat:Int):=by
 have h1:i<s.data.size:=h
 refine⟨s.data[i],by simp[h1],?_⟩
 unfold byteAt
 have:s[i]? = some s.data[i]:=by
  rw[getElem?_pos s i h]
  rfl
 rw[this]
 rfl
theorem bytesL_succ {s:ByteArray} {p k:Nat} (h:p+k<s.size):∃ b:UInt8,bytesL s p (k+1)=bytesL s p k ++ [b]∧byteAt s (p+k)=(b.toNat:Int):=by
 obtain⟨b,h1,h2⟩:=byteAt_list h
 refine⟨b,?_,h2⟩
 unfold bytesL
 rw[List.take_add_one,Gq7,h1]
 rfl
def dval:List UInt8→Nat
 | []=>0
 |b::l=>b.toNat%128+128*dval l
theorem dval_snoc (b:UInt8):∀ l:List UInt8,dval (l ++ [b])=dval l+b.toNat%128*2 ^ (7*l.length)
 | []=>by simp[dval]
 |a::l=>by
  have h1:=dval_snoc b l
  have h2:=pow7s l.length
  simp only[List.cons_append,dval,Gqw,h1,h2]
  rw[Nat.mul_add,Gxx,Nat.mul_left_comm]
theorem dval_lt:∀ l:List UInt8,dval l<2 ^ (7*l.length)
 | []=>by simp[dval]
 |a::l=>by
  have h1:=dval_lt l
  have h2:=pow7s l.length
  simp only[dval,Gqw,h2]
  omega
theorem dval_zero {b:UInt8} (hb:b.toNat<128):∀ {l:List UInt8},dval (l ++ [b])=0→b.toNat=0
 | [],h=>by simp[dval] at h; omega
 |a::l,h=>by
  simp only[List.cons_append,dval] at h
  exact dval_zero hb (l:=l) Aqa 
theorem canon {b:UInt8} (hb:b.toNat<128):∀ (l:List UInt8),(∀ a∈l,128≤a.toNat)→(varN (dval (l ++ [b]))=l ++ [b]↔(l = []∨b.toNat≠0))
 | [],_=>by
  simp only[List.nil_append,dval,true_or,iff_true]
  rw[Nat.mod_eq_of_lt hb,Nat.mul_zero,Gx5,Uh hb,UInt8.ofNat_toNat]
 | a::l,h=>by
  have ih:=canon hb l fun x hx=>h x (by simp[hx])
  have ha:=h a Aqd 
  have ha2:=a.toNat_lt
  simp only[List.cons_append,dval]
  by_cases hD:dval (l ++ [b])=0
  ·have h0:=dval_zero hb hD
   rw[hD,Nat.mul_zero,Gx5,Uh Aqa]
   constructor
   ·intro e
    have:=congrArg List.length e
    simp at this
   ·intro e
    rcases e with e | e
    ·cases e
    ·exact absurd h0 e
  ·have hm:(a.toNat%128+128*dval (l ++ [b]))%128=a.toNat%128:=Aqa
   have hq:(a.toNat%128+128*dval (l ++ [b]))/128=dval (l ++ [b]):=Aqa
   have ha3:UInt8.ofNat (a.toNat%128+128)=a:=by
    rw[show a.toNat%128+128=a.toNat by omega,UInt8.ofNat_toNat]
   rw[varN_big Aqa,hm,hq,ha3]
   simp only[List.cons.injEq,true_and]
   rw[ih]
   constructor
   ·intro e
    rcases e with rfl | e
    ·refine .inr fun e=>hD ?_
     simp[dval,e]
    ·exact .inr e
   ·intro e
    rcases e with e | e
    ·cases e
    ·exact .inr e
theorem extract_list (s:ByteArray) (p q:Nat):(s.extract p q).data.toList=(s.data.toList.drop p).take (q-p):=by
 rw[ByteArray.data_extract,Array.toList_extract]
theorem extract_bytes (s:ByteArray) (p k:Nat):s.extract p (p+k)=bs (bytesL s p k):=by
 rw[←bs_of (s.extract p (p+k)),extract_list,show p+k-p=k by omega]
 rfl
theorem Yb (s:ByteArray) (p:Int) (hs:s.size≤1099511627776) (hp:I64 p):Co 248 [] [astr s,ai p] [] (dvR (decVar s p)):=by
 obtain⟨hp1,hp2⟩:=hp
 by_cases hneg:p<0
 ·have hb1:decide (p<0)=true:=Gqb hneg
  rw[show decVar s p=none by rw[decVar,if_neg Aqa]]
  refine Con.o func248 ntmps248 fun E=>?_;refine Wz [3,134,143,32,3,134,76] ?_
  exact Bzn
 have hb1:decide (p<0)=false:=Gqa hneg
 by_cases hbig:(s.size:Int)≤p
 ·have hb2:decide (p<(s.size:Int))=false:=Gqa Aqa 
  rw[show decVar s p=none by rw[decVar,if_neg Aqa]]
  refine Con.o func248 ntmps248 fun E=>?_;refine Wz [3,134,126,23,107] ?_;refine A_lt 1 (fun k => [(0,S s),(1,I p),(8,I k)]) (fun k => []) (Yj [] Aqb) ?_
  intro m_A k hk_A
  have hkz:k=0∨k=1:=Aqa
  have hb3:decide ((k:Int)<6)=true:=Gqb Aqa 
  refine Wz [41,19,14,21,38,2,19,46,55,87,5,165,30,3,134,36] ?_
  exact Bzn
 obtain⟨q,rfl⟩:∃ q:Nat,p=q:=⟨p.toNat,Aqa⟩
 have hb2:decide ((q:Int)<(s.size:Int))=true:=Gqb Aqa 
 rw[show decVar s q=dvGo s q 0 0 6 by rw[decVar,if_pos Aqa]; rfl]
 refine Con.o func248 ntmps248 fun E=>?_;refine Wz [3,134,126,23,107] ?_;refine Xj (fun m__ st=>∃ (k:Nat) (n:Nat),6-k=m__∧(k≤6∧q+k≤s.size∧(∀ a∈bytesL s q k,128≤a.toNat)∧n=dval (bytesL s q k)∧dvGo s q n k (6-k)=dvGo s q 0 0 6)∧st=(⟨_,[(0,S s),(1,I q),(7,I n),(8,I k)],[]⟩:St)) _ ⟨_,⟨0,0,J,⟨Aqa,Aqa,by simp[bytesL],by simp[bytesL,dval],J⟩,J⟩,Yj [] Aqb⟩ ?_
 rintro m_A _ ⟨k,n,hk_A,hp_A,rfl⟩
 obtain⟨hk6,hqk,hall,hn,hgo⟩:=hp_A
 have hlen:(bytesL s q k).length=k:=by
  have:s.data.toList.length=s.size:=Aqd
  simp[bytesL]; omega
 have hn1:=dval_lt (bytesL s q k)
 rw[←hn,hlen] at hn1
 obtain⟨M,hM,hM1,hM2⟩:=pow7 hk6
 have hMs:=pow7s k
 rw[hM] at hn1 hMs
 rw[←hgo]
 refine Wz [41,160,0,171,252] ?_;refine zx (Qt.grdT J J J (.hit (.hit .stop)) (fun hgrd=>Vd J J J)) J ?_;refine zx (Qt.grdT J J J (.hit (.hit (.hit .stop))) (fun hgrd=>Qr J J J J Aqe)) J ?_;refine Wz [66,0,171,252] ?_;refine zx (Qt.grdT J J J (.hit (.hit .stop)) (fun hgrd=>Qs J J J J Aqa)) J ?_;refine zx (Qt.grdT J J J (.hit (.hit (.hit .stop))) (fun hgrd=>Qa J J J)) J ?_;refine zx (Qt.grdT J J J (.hit (.hit (.hit (.hit .stop)))) (fun hgrd=>Vd J J J)) J ?_;refine zx (Qt.grdT J J J (.hit (.hit (.hit (.hit (.hit .stop))))) (fun hgrd=>Vh J J J J)) J ?_;refine Wz [66,1] ?_
 refine Xb J (fun h=>?_) (fun h=>?_)
 ·simp only[Gqh,decide_eq_true_eq] at h
  have hlt:q+k<s.size:=Aqa
  obtain⟨f,hf⟩:∃ f,6-k=f+1:=⟨5-k,Aqa⟩
  obtain⟨b,hb,hcb⟩:=bytesL_succ hlt
  obtain⟨c,hc⟩:∃ c:Nat,b.toNat=c:=⟨_,rfl⟩
  rw[hc] at hcb
  have hcr:=Yy s (q+k)
  rw[hcb] at hcr
  have hc1:byteAt s ((q:Int)+(k:Int)).toNat=(c:Int):=by rw[←hcb]; congr 1
  obtain⟨d,hd⟩:∃ d:Nat,c%128=d:=⟨_,rfl⟩
  have hd1:(c:Int).toNat &&& (127:Int).toNat=d:=by
   rw[show (127:Int).toNat=2 ^ 7-1 from rfl,Gx9]
   exact hd
  obtain⟨r,hr⟩:∃ r:Nat,d*M=r:=⟨_,rfl⟩
  have hr2:r≤127*M:=by rw[←hr]; exact Gx0 _ Aqa 
  have hr1:(d:Int)*2 ^ (7*(k:Int)).toNat=(r:Int):=by rw[pow7i,hM,←hr]; norm_cast
  have hor:(n:Int).toNat ||| (r:Int).toNat=n+r:=or_add hM hn1 hr
  have hval:n+r=dval (bytesL s q (k+1)):=by rw[hb,dval_snoc,hlen,hM,hc,hd,hr,←hn]
  have hgo1:dvGo s q n k (f+1)=if 128≤(c:Int) then dvGo s q ((n+r:Nat):Int) (k+1) f else if ((c:Int)=0∧0<k)∨1099511627775<((n+r:Nat):Int) then none else some (((n+r:Nat):Int),k+1):=by
   have h9:(n:Int)+(c:Int)%128*2 ^ (7*k)=((n+r:Nat):Int):=by
    rw[show (c:Int)%128=d by omega,←hr,←hM]
    norm_cast
   rw[dvGo,if_pos hlt,hcb,h9]
  rw[hf,hgo1]
  by_cases h7:128≤(c:Int)
  ·have hb7:decide ((c:Int)<128)=false:=Gqa Aqa 
   refine Wz [9,50,0,13,168,286,189,0,144,287] ?_;refine zx (q_borK J J J J Aqe Aqa) J ?_;refine Wz [8,50,13,168,19,81] ?_
   refine⟨_, Aqa,_,⟨k+1,n+r,rfl,⟨Aqa,Aqa,by rw[hb]; intro a ha; rcases Gqs.1 ha with ha | ha; exact hall a ha; simp only[Gxd] at ha; rw[ha]; omega,hval,by rw[if_pos h7,show 6-(k+1)=f by omega]⟩,rfl⟩,Yj [] Aqb⟩
  have hb7:decide ((c:Int)<128)=true:=Gqb Aqa 
  rw[if_neg h7]
  have hcan:=canon (b:=b) Aqa (bytesL s q k) hall
  rw[←hb,←hval] at hcan
  have hle:=Ze ((n+r:Nat):Int)
  have hex:=extract_bytes s q (k+1)
  have hnil:bytesL s q k = []↔k=0:=by rw[←List.length_eq_zero_iff,hlen]
  have hne:bytesL s q (k+1) ≠ []:=by rw[hb]; simp
  have hex1:s.extract ((q:Int)).toNat ((q:Int)+(k:Int)+1).toNat=bs (bytesL s q (k+1)):=by rw[←hex]; congr 1
  have hiff:bs (encVar ((n+r:Nat):Int))=bs (bytesL s q (k+1))↔¬(((c:Int)=0∧0<k)∨1099511627775<((n+r:Nat):Int)):=by
   rw[bs_inj,encVar]
   split
   ·rename_i h5
    rw[show (((n+r:Nat):Int)).toNat=n+r by omega,hcan,hnil]
    omega
   ·exact⟨fun e=>absurd e.symm hne,fun e=>by omega⟩
  by_cases h8:((c:Int)=0∧0<k)∨1099511627775<((n+r:Nat):Int)
  ·rw[if_pos h8]
   have hb8:decide (bs (encVar ((n+r:Nat):Int))≠s.extract ((q:Int)).toNat ((q:Int)+(k:Int)+1).toNat)=true:=Gqb (by rw[hex1]; exact fun e=>hiff.1 e h8)
   refine Wz [9,50,0,13,168,286,189,0,144,287] ?_;refine zx (q_borK J J J J Aqe Aqa) J ?_;refine Wz [8,50,13,168,157,4,4] ?_;refine Xi u8_28 u8_29 u8_30 J (Uq (Qa J J J) J ?_);refine Uq (Qj J J (Yc ((n+r:Nat):Int)) J) J ?_;refine Wz [35,35,187,187,265,230,12,32,3,134,155,93,161,89] ?_
   exact Bzn
  ·rw[if_neg h8]
   have hb8:decide (bs (encVar ((n+r:Nat):Int))≠s.extract ((q:Int)).toNat ((q:Int)+(k:Int)+1).toNat)=false:=Gqa (by rw[hex1]; exact fun e=>e (hiff.2 h8))
   refine Wz [9,50,0,13,168,286,189,0,144,287] ?_;refine zx (q_borK J J J J Aqe Aqa) J ?_;refine Wz [8,50,13,168,157,4,4] ?_;refine Xi u8_28 u8_29 u8_30 J (Uq (Qa J J J) J ?_);refine Uq (Qj J J (Yc ((n+r:Nat):Int)) J) J ?_;refine Wz [35,35,187,187,265,230,12,28,10,13,134,155,57] ?_
   exact Bzn
 ·simp only[Bool.and_true,Gxp,decide_eq_false_iff_not] at h
  rw[show dvGo s q n k (6-k)=none by
   cases hf:6-k with
   |zero=>rfl
   |succ f=>rw[dvGo,if_neg Aqa]]
  refine Wz [30,3,134,36] ?_
  exact Bzn
end
section
open Tryz
open Go.RowKit

theorem dvGo_some (s:ByteArray) (q:Nat):∀ (f k:Nat) (n m:Int) (j:Nat),0≤n→dvGo s q n k f=some (m,j)→0≤m∧m≤1099511627775∧k<j∧j≤k+f∧q+j≤s.size:=by
 intro f
 induction f with
 |zero=>intro k n m j _ h; simp[dvGo] at h
 | succ f ih =>
  intro k n m j h0 h
  have hb:=Yy s (q+k)
  rw[dvGo] at h
  have hp:(0:Int)≤byteAt s (q+k)%128*2 ^ (7*k):=Int.mul_nonneg Aqa (Int.le_of_lt (Int.pow_pos Aqa))
  split at h
  ·split at h
   ·have:=ih (k+1) _ m j Aqa h
    omega
   ·split at h
    ·cases h
    ·simp only[Option.some.injEq,Prod.mk.injEq] at h
     obtain⟨rfl,rfl⟩:=h
     omega
  ·cases h
theorem Y2 {s:ByteArray} {p m:Int} {j:Nat} (h:decVar s p=some (m,j)):0≤p∧0≤m∧m≤1099511627775∧1≤j∧j≤6∧p+j≤s.size:=by
 unfold decVar at h
 split at h
 ·have:=dvGo_some s p.toNat 6 0 0 m j Aqa h
  omega
 ·cases h
theorem q_quoN {P:Program} {ops:Array Oper} {o:Oper} {st:St} {n:Nat} {t t':TypeId} {y z:Operand} {ps qs:List Nat} {i j r:Int} (ho:o.op = .binOp .quo t y z t') (hg:o.guard=none) (hy:st.ev y = .o (.c (.rd ps (.v (.int .i64 i))))) (hz:st.ev z = .o (.c (.rd qs (.v (.int .i64 j)))))
  (hr:i.tdiv j=r) (hb : -9223372036854775808≤i∧i≤9223372036854775807∧1≤j):Qt P ops o st (I r) [] n :=
 hr▸Kj ho hg hy hz fun w=>by
  have:j≠0:=Aqa
  simp[binOp,Op.intDiv,this,IntWalk.i64_quo' _ _ hb]
def signed (n:Int):Int:=if 0≤n∧n≤1099511627775 then (if n%2=0 then n/2 else -((n+1)/2)) else 0
theorem signed_gd (n:Int):I64 (signed n):=by
 unfold signed
 split
 ·split <;> exact⟨Aqa,Aqa⟩
 ·exact⟨Aqa,Aqa⟩
theorem neg_tdiv {n:Int} (h:0≤n):(-(n+1)).tdiv 2 = -((n+1)/2):=by
 rw[Int.neg_tdiv,Int.tdiv_eq_ediv_of_nonneg Aqa]
theorem I_Signed (n:Int) (hn:I64 n):Co 261 [] [ai n] [] (I (signed n)):=by
 obtain⟨hn1,hn2⟩:=hn
 refine Con.o func261 ntmps261 fun E=>?_;refine Wz [95,160,103,239,75] ?_
 refine Xb J (fun h=>?_) (fun h=>?_)
 ·simp only[Gqq,decide_eq_true_eq] at h
  refine Wz [69] ?_
  exact E_w [] J (X0 (by rw[signed,if_neg Aqa]))
 simp only[Gqm,decide_eq_false_iff_not] at h
 have hv:=neg_tdiv (n:=n) Aqa 
 refine Wz [42,41,167,216,1] ?_
 refine Xb J (fun h1=>?_) (fun h1=>?_)
 ·have h1:=Gqc h1
  refine Wz [11,205,76] ?_
  exact E_w [] J (X0 (by rw[signed,if_pos Aqa,if_pos Aqa]))
 ·have h1:=Gqd h1
  refine Wz [42,11,13,288] ?_;refine zx (q_quoN J J J J Aqe Aqa) J ?_;refine Wz [36] ?_
  exact E_w [] J (X0 (by rw[signed,if_pos Aqa,if_neg Aqa]))
theorem S_Signed (n:Int) (hn:I64 n):Co 250 [] [ai n] [] (I (signed n)):=by
 obtain⟨hn1,hn2⟩:=hn
 refine Con.o func250 ntmps250 fun E=>?_;refine Wz [95] ?_;refine kc0 (Yg n 0 1099511627775) ?_;refine Wz [6,1] ?_
 refine Xb J (fun h=>?_) (fun h=>?_)
 ·have h:¬(0≤n∧n≤1099511627775):=Bxx
  refine Wz [69] ?_
  exact E_w [] J (X0 (by rw[signed,if_neg h]))
 have h:0≤n∧n≤1099511627775:=Bxx
 have hv:=neg_tdiv (n:=n) Aqa 
 have hm:n.toNat &&& (1:Int).toNat=n.toNat%2:=Gx9 n.toNat 1
 refine Wz [42,41] ?_;refine zx (q_bandK J J J J Aqe Aqa) J ?_;refine Wz [216,1] ?_
 refine Xb J (fun h1=>?_) (fun h1=>?_)
 ·have h1:=Gqc h1
  refine Wz [11,13,288] ?_;refine zx (q_quoN J J J J Aqe Aqa) J ?_;refine Wz [76] ?_
  exact E_w [] J (X0 (by rw[signed,if_pos Aqa,if_neg Aqa]))
 ·have h1:=Gqd h1
  refine Wz [42,11,205,36] ?_
  exact E_w [] J (X0 (by rw[signed,if_pos Aqa,if_pos Aqa]))
/-! ### Lists -/
def uiGo (s:ByteArray) (p:Nat):Nat→Nat→Option (List Int×Nat)
 |0,pos=>some ([],pos)
 |c+1,pos=>match decVar s ((p:Int)+(pos:Int)) with
  |none=>none
  |some (v,m)=>(uiGo s p c (pos+m)).map fun r=>(signed v::r.1,r.2)
def unpackInts (s:ByteArray) (p:Int):Option (List Int×Nat):=match decVar s p with
 |none=>none
 |some (n,k)=>uiGo s p.toNat n.toNat k
@[reducible] def uiO:Option (List Int×Nat)→List Ob
 |none => [.row 1 []]
 |some (l,_) => [.row 1 (els l)]
@[reducible] def uiR:Option (List Int×Nat)→V
 |none => .tu [.c (Aqk 0),.c (jn 0),.c (bv false)]
 |some (_,k) => .tu [.c (Aqk 0),.c (jn k),.c (bv true)]
theorem uiGo_some (s:ByteArray) (p:Nat):∀ (c pos:Nat) (l:List Int) (j:Nat),uiGo s p c pos=some (l,j)→l.length=c∧pos+c≤j∧(0<c→p+j≤s.size)∧(∀ x∈l,I64 x):=by
 intro c
 induction c with
 |zero =>
  intro pos l j h
  simp only[uiGo,Option.some.injEq,Prod.mk.injEq] at h
  obtain⟨rfl,rfl⟩:=h
  exact⟨J,Aqa,fun h=>by omega,fun x hx=>by simp at hx⟩
 | succ c ih =>
  intro pos l j h
  rw[uiGo] at h
  split at h
  ·cases h
  ·rename_i v m hd
   obtain⟨r,h1,h2⟩:=Option.map_eq_some_iff.1 h
   simp only[Prod.mk.injEq] at h2
   obtain⟨rfl,rfl⟩:=h2
   have hm:=Y2 hd
   obtain⟨a1,a2,a3,a4⟩:=ih (pos+m) r.1 r.2 h1
   refine⟨by simp[a1],Aqa,fun _=>?_,fun x hx=>?_⟩
   ·by_cases hc:0<c
    ·exact a3 hc
    ·have:c=0:=Aqa
     subst this
     simp only[uiGo,Option.some.injEq] at h1
     rw[←h1]
     show p+(pos+m)≤s.size
     omega
   ·rcases List.mem_cons.1 hx with rfl | hx
    ·exact signed_gd v
    ·exact a4 x hx
theorem Uf {s:ByteArray} {p:Int} {l:List Int} {j:Nat} (h:unpackInts s p=some (l,j)):0≤p∧1≤j∧p+j≤s.size∧(l.length:Int)+1≤j∧(∀ x∈l,I64 x):=by
 unfold unpackInts at h
 split at h
 ·cases h
 ·rename_i n k hd
  have hm:=Y2 hd
  obtain⟨a1,a2,a3,a4⟩:=uiGo_some s _ _ _ _ _ h
  refine⟨hm.1,Aqa,?_,Aqa,a4⟩
  by_cases hn:0<n.toNat
  ·have:=a3 hn; omega
  ·have h0:n.toNat=0:=Aqa
   rw[h0] at h
   simp only[uiGo,Option.some.injEq,Prod.mk.injEq] at h
   omega
theorem els_snocI (acc:List Int) (v:Int):els (acc ++ [v])=els acc ++ [[.v (.int .i64 v)]]:=by simp[els,Enc.e]
theorem I_UnpackInts (s:ByteArray) (p:Int) (hs:s.size≤1099511627776) (hp:I64 p):Co 236 [] [astr s,ai p] (uiO (unpackInts s p)) (uiR (unpackInts s p)):=by
 have hd:=Xt s p hs hp
 cases hv:decVar s p with
 |none =>
  rw[hv] at hd
  rw[show unpackInts s p=none by rw[unpackInts,hv]]
  refine Con.o func236 ntmps236 fun E=>?_;refine Wz [3,134,8,10,148,102,72,55,182,83,3,134,76] ?_
  exact Xr J J J J (Yi [1] [0] J J Aqc J J J)
 | some r =>
  obtain⟨n,k0⟩:=r
  rw[hv] at hd
  have hm:=Y2 hv
  obtain⟨q,rfl⟩:∃ q:Nat,p=q:=⟨p.toNat,Aqa⟩
  obtain⟨c,rfl⟩:∃ c:Nat,n=c:=⟨n.toNat,Aqa⟩
  rw[show unpackInts s q=uiGo s q c k0 by rw[unpackInts,hv]; rfl]
  by_cases hbig:(s.size:Int)-q-k0<c
  ·have hb:decide ((s.size:Int)-q-k0<c)=true:=Gqb hbig
   have hno:uiGo s q c k0=none:=by
    cases ho:uiGo s q c k0 with
    |none=>rfl
    |some r =>
     have:=uiGo_some s q c k0 r.1 r.2 ho
     omega
   rw[hno]
   refine Con.o func236 ntmps236 fun E=>?_;refine Wz [3,134,8,10,148,102,72,14,21,38,2,21,29,2,21,29,2,111,5,32,3,134,76] ?_
   exact Xr J J J J (Yi [1] [0] J J Aqc J J J)
  have hb:decide ((s.size:Int)-q-k0<c)=false:=Gqa hbig
  refine Con.o func236 ntmps236 fun E=>?_;refine Wz [3,134,8,10,148,102,72,14,21,38,2,21,29,2,21,29,2,111,5,97] ?_;refine M1 (q_makec 1 J J J J Aqa Aqa Aqa Aqa  J Aqd) J J ?_;refine Wz [16,51] ?_;refine Xj (fun m__ st=>∃ (k:Nat) (pos:Nat) (acc:List Int),c-k=m__∧(k≤c∧acc.length=k∧q+pos+(c-k)≤s.size+(c-k)∧q+pos≤s.size∧(uiGo s q (c-k) pos).map (fun r=>(acc++r.1,r.2))=uiGo s q c k0)∧st=(⟨_,[(0,S s),(1,I q),(7,I c),(8,I pos),(10,Aqg 0),(11,I k)],[.row 1 (els acc)]⟩:St)) _ ⟨_,⟨0,k0,[],J,⟨Aqa,J,Aqa,Aqa,Aqd⟩,J⟩,Yj [0] Aqb⟩ ?_
  rintro m_A _ ⟨k,pos,acc,hk_A,hp_A,rfl⟩
  obtain⟨hkc,hacc,_,hpos,hgo⟩:=hp_A
  have hla:=Y7 acc
  rw[←hgo]
  refine Wz [15,58] ?_
  refine Xb J (fun h=>?_) (fun h=>?_)
  ·have hlt:k<c:=Bqx
   have hd2:=Xt s ((q:Int)+(pos:Int)) hs ⟨Aqa,Aqa⟩
   obtain⟨f,hf⟩:∃ f,c-k=f+1:=⟨c-k-1,Aqa⟩
   rw[hf]
   cases hv2:decVar s ((q:Int)+(pos:Int)) with
   |none =>
    rw[hv2] at hd2
    rw[show uiGo s q (f+1) pos=none by rw[uiGo,hv2]]
    refine Wz [9,50,13] ?_;refine kc1 hd2 ?_;refine Wz [102,72,32,3,134,155,93,161,89] ?_
    exact Xr J J J J (Yi [1] [1] J J Aqc J J J)
   |some r =>
    obtain⟨v,m⟩:=r
    rw[hv2] at hd2
    have hm2:=Y2 hv2
    have hsg:=I_Signed v ⟨Aqa,Aqa⟩
    refine Wz [9,50,13] ?_;refine kc1 hd2 ?_;refine Wz [102,72,28,10] ?_;refine kc0 hsg ?_;refine Wz [116,183,8,27,0,13,110] ?_
    refine⟨_, Aqa,(fun (k:Nat) (pos:Nat) (acc:List Int)=>(⟨_,[(0,S s),(1,I q),(7,I c),(8,I pos),(10,Aqg 0),(11,I k)],[.row 1 (els acc)]⟩:St)) (k+1) (pos+m) (acc ++ [signed v]),⟨k+1,pos+m,acc ++ [signed v],J,⟨Aqa,by simp[hacc],Aqa,Aqa,by rw[uiGo,hv2,show c-(k+1)=f by omega]; simp[Option.map_map]; rfl⟩,J⟩,Yk [0] Aqc J (Vy (els_snocI acc _)) (.c J (.c J (.c J (.c J (.c J (.c J (.nil)))))))⟩
  ·have hkk:k=c:=Bq5
   subst hkk
   rw[show uiGo s q (k-k) pos=some ([],pos) by rw[Gx8]; rfl]
   refine Wz [30,10,134,36] ?_
   exact Xr J J J J (Yh [0] Aqc J (Vy Aqd) J)
theorem S_UnpackInts (s:ByteArray) (p:Int) (hs:s.size≤1099511627776) (hp:I64 p):Co 227 [] [astr s,ai p] (uiO (unpackInts s p)) (uiR (unpackInts s p)):=by
 have hd:=Yb s p hs hp
 have h00:([]:List (List T)).length=0:=rfl
 cases hv:decVar s p with
 |none =>
  rw[hv] at hd
  rw[show unpackInts s p=none by rw[unpackInts,hv]]
  have hb0:decide ((0:Int)<0)=false:=rfl
  refine Con.o func227 ntmps227 fun E=>?_;refine Wz [3,134,8,10,148,102,8,3,184,16,51] ?_;refine A_lp 1 (fun k=>k=0) (fun k => [(7,I 0),(9,B false),(11,I k)]) (fun k => []) J (Yj [] Aqb) ?_
  intro m_A k hk_A hp_A
  subst hp_A
  refine Wz [15,19,0,80,5,165,30,41,6,32,3,184,134,76] ?_
  exact Xr J J J J (Yh [0] Aqc J J J)
 | some r =>
  obtain⟨n,k0⟩:=r
  rw[hv] at hd
  have hm:=Y2 hv
  obtain⟨q,rfl⟩:∃ q:Nat,p=q:=⟨p.toNat,Aqa⟩
  obtain⟨c,rfl⟩:∃ c:Nat,n=c:=⟨n.toNat,Aqa⟩
  rw[show unpackInts s q=uiGo s q c k0 by rw[unpackInts,hv]; rfl]
  refine Con.o func227 ntmps227 fun E=>?_;refine Wz [3,134,8,10,148,102,8,3,184,16,51] ?_;refine Xj (fun m__ st=>∃ (k:Nat) (pos:Nat) (acc:List Int) (ok:Bool),c+1-k=m__∧(k≤c+1∧acc.length=k∧k≤s.size+1∧(ok=true→k≤c∧k+1≤pos∧q+pos≤s.size∧(uiGo s q (c-k) pos).map (fun r=>(acc++r.1,r.2))=uiGo s q c k0)∧(ok=false→uiGo s q c k0=none)∧pos≤s.size)∧st=(⟨_,[(0,S s),(1,I q),(7,I c),(8,I pos),(9,B ok),(10,Aqg 0),(11,I k)],[.row 1 (els acc)]⟩:St)) _ ⟨_,⟨0,k0,[],true,J,⟨Aqa,J,Aqa,fun _=>⟨Aqa,Aqa,Aqa,Aqd⟩,fun e=>(by cases e),Aqa⟩,J⟩,Yj [0] Aqb⟩ ?_
  rintro m_A _ ⟨k,pos,acc,ok,hk_A,hp_A,rfl⟩
  obtain⟨hkc,hacc,hks,hok,hno,hps⟩:=hp_A
  have hla:=Y7 acc
  cases ok with
  | false =>
   rw[hno rfl]
   by_cases hlt:(k:Int)<c
   ·have hb:decide ((k:Int)<c)=true:=Gqb hlt
    refine Wz [15,19,21,0,46,165,30,41,6,32,3,184,134,76] ?_
    exact Xr J J J J (Yh [1] Aqc J J J)
   ·have hb:decide ((k:Int)<c)=false:=Gqa hlt
    refine Wz [15,19,0,80,5,165,30,41,6,32,3,184,134,76] ?_
    exact Xr J J J J (Yh [1] Aqc J J J)
  | true =>
   obtain⟨hkc2,hkp,hpos,hgo⟩:=hok rfl
   rw[←hgo]
   by_cases hlt:(k:Int)<c
   ·have hb:decide ((k:Int)<c)=true:=Gqb hlt
    have hd2:=Yb s ((q:Int)+(pos:Int)) hs ⟨Aqa,Aqa⟩
    obtain⟨f,hf⟩:∃ f,c-k=f+1:=⟨c-k-1,Aqa⟩
    rw[hf]
    cases hv2:decVar s ((q:Int)+(pos:Int)) with
    |none =>
     rw[hv2] at hd2
     rw[show uiGo s q (f+1) pos=none by rw[uiGo,hv2]]
     have hsg:=S_Signed 0 ⟨Aqa,Aqa⟩
     refine Wz [15,19,21,0,83,9,50,13] ?_;refine kc1 hd2 ?_;refine Wz [102,44,8,10,49,27,0] ?_;refine kc0 hsg ?_;refine Wz [116,183,110] ?_
     refine⟨_, Aqa,(fun (k:Nat) (pos:Nat) (acc:List Int) (ok:Bool)=>(⟨_,[(0,S s),(1,I q),(7,I c),(8,I pos),(9,B ok),(10,Aqg 0),(11,I k)],[.row 1 (els acc)]⟩:St)) (k+1) (pos) (acc ++ [signed 0]) (false),⟨k+1,pos,acc ++ [signed 0],false,J,⟨Aqa,by simp[hacc],Aqa,fun e=>(by cases e),fun _=>rfl,hps⟩,J⟩,Yk [0] Aqc J (Vy (els_snocI acc _)) (.c J (.c J (.c J (.c J (.c J (.c J (.c J (.nil))))))))⟩
    |some r =>
     obtain⟨v,m⟩:=r
     rw[hv2] at hd2
     have hm2:=Y2 hv2
     have hsg:=S_Signed v ⟨Aqa,Aqa⟩
     refine Wz [15,19,21,0,83,9,50,13] ?_;refine kc1 hd2 ?_;refine Wz [102,44,8,10,49,27,0] ?_;refine kc0 hsg ?_;refine Wz [116,183,110] ?_
     refine⟨_, Aqa,(fun (k:Nat) (pos:Nat) (acc:List Int) (ok:Bool)=>(⟨_,[(0,S s),(1,I q),(7,I c),(8,I pos),(9,B ok),(10,Aqg 0),(11,I k)],[.row 1 (els acc)]⟩:St)) (k+1) (pos+m) (acc ++ [signed v]) (true),⟨k+1,pos+m,acc ++ [signed v],true,J,⟨Aqa,by simp[hacc],Aqa,fun _=>⟨Aqa,Aqa,Aqa,by rw[uiGo,hv2,show c-(k+1)=f by omega]; simp[Option.map_map]; rfl⟩,fun e=>(by cases e),Aqa⟩,J⟩,Yk [0] Aqc J (Vy (els_snocI acc _)) (.c J (.c J (.c J (.c J (.c J (.c J (.c J (.nil))))))))⟩
   ·have hb:decide ((k:Int)<c)=false:=Gqa hlt
    have hkk:k=c:=Aqa
    subst hkk
    rw[show uiGo s q (k-k) pos=some ([],pos) by rw[Gx8]; rfl]
    refine Wz [15,19,0,80,5,165,30,41,6,28,10,134,36] ?_
    exact Xr J J J J (Yh [0] Aqc J (Vy Aqd) J)
/-! ### Texts -/
def unpackText (s:ByteArray) (p:Int):Option (ByteArray×Nat):=match decVar s p with
 |none=>none
 |some (n,k)=>if (s.size:Int)-p-k<n then none else some (s.extract (p+k).toNat (p+k+n).toNat,k+n.toNat)
@[reducible] def utR:Option (ByteArray×Nat)→V
 |none => .tu [.c (.rd [] (.v (.string ⟨#[]⟩))),.c (jn 0),.c (bv false)]
 |some (t,k) => .tu [.c (.rd [] (.v (.string t))),.c (jn k),.c (bv true)]
theorem unpackText_some {s t:ByteArray} {p:Int} {j:Nat} (h:unpackText s p=some (t,j)):0≤p∧1≤j∧p+j≤s.size∧t.size+1≤j∧t=s.extract (p+j-t.size).toNat (p+j).toNat:=by
 unfold unpackText at h
 split at h
 ·cases h
 ·rename_i n k hd
  have hm:=Y2 hd
  split at h
  ·cases h
  ·simp only[Option.some.injEq,Prod.mk.injEq] at h
   obtain⟨rfl,rfl⟩:=h
   have hsz:(s.extract (p+k).toNat (p+k+n).toNat).size=n.toNat:=by
    rw[Gxl]; omega
   refine⟨hm.1,Aqa,Aqa,Aqa,?_⟩
   rw[hsz]
   congr 1 <;> omega
theorem tu3 {a b:V2} {x y:Int} (h:x=y):V.tu [a,.c (Aqh x),b]=V.tu [a,.c (Aqh y),b]:=by rw[h]
theorem I_UnpackText (s:ByteArray) (p:Int) (hs:s.size≤1099511627776) (hp:I64 p):Co 260 [] [astr s,ai p] [] (utR (unpackText s p)):=by
 have va_:=@Xt; have vb_:=@func260; have vc_:=@ntmps260; exact Bql
theorem S_UnpackText (s:ByteArray) (p:Int) (hs:s.size≤1099511627776) (hp:I64 p):Co 268 [] [astr s,ai p] [] (utR (unpackText s p)):=by
 have va_:=@Yb; have vb_:=@func268; have vc_:=@ntmps268; exact Bql
@[reducible] def otR:Option ByteArray→V
 |none => .tu [.c (.rd [] (.v (.string ⟨#[]⟩))),.c (bv false)]
 |some t => .tu [.c (.rd [] (.v (.string t))),.c (bv true)]
end
section
open Go.RowKit
end
section
open Go.RowKit

theorem OW.take {w:World} {k:Nat} {es:List (List T)} {v:Value} {fp:List Nat} (h:OW w (.sl k es) v fp) (hnd:fp.Nodup) {n:Nat} (hn:n≤es.length):∃ A c fp',v = .slice A es.length c∧es.length≤c∧OW w (.sl k (es.take n)) (.slice (if c=0 then A else A.map (·.add (0*k))) (n-0) (c-0)) fp'∧(∀ b∈fp',b∈fp)∧fp'.Nodup:=by
 cases h with
 |nil =>
  have:n=0:=by simpa using hn
  subst this
  exact⟨none,0,[],J,Gqi _,by simpa using OW.nil (w:=w) k,Aqd,Aqd⟩
 | sl _ b o _ c tid cur fz val fps hg hz hc hm hs hp hk hf hfk hv ht =>
  have hA:(if c=0 then some (⟨b,o,none⟩:Addr) else (some (⟨b,o,none⟩:Addr)).map (·.add (0*k)))=some ⟨b,o,none⟩:=by
   split
   ·rfl
   ·simp[Addr.add]
  have hl:(es.take n).length=n:=Bqz
  have hfl:fps.flatten.flatten=(fps.take n).flatten.flatten++(fps.drop n).flatten.flatten:=by
   rw[←Gqt,←Gqt,Gxq]
  refine⟨some ⟨b,o,none⟩,c,b::(fps.take n).flatten.flatten,J,hc,?_,fun x hx=>?_,?_⟩
  ·rw[hA]
   have h1:=OW.sl (w:=w) (es.take n) b o k c tid cur fz val (fps.take n) hg hz Aqa hm hs hp (fun e he=>hk e (Gxt he)) (by simp[hf]) (fun f hf'=>hfk f (Gxt hf'))
    (fun i j hi hj=>hv i j Aqa hj) (fun i j e t fs f g1 g2 g3 g4=>by
     have hi:=Zj g1
     rw[hl] at hi
     rw[Gxh,if_pos hi] at g1 g3
     exact ht i j e t fs f g1 g2 g3 g4)
   rw[hl] at h1
   simpa using h1
  ·rcases List.mem_cons.1 hx with rfl | hx
   ·simp
   ·exact Gxc _ (by rw[hfl]; exact List.mem_append_left _ hx)
  ·rw[hfl,←List.cons_append] at hnd
   exact (List.nodup_append.1 hnd).1

def V1.tohd (p n:Nat):V1→V1
 | .hd q m=>match Nat.beq q p with
  |true=>match Nat.beq m n with
   |true => .ref p
   |false => .un
  |false => .hd q m
 |x=>x.kill [p]
theorem Wk.head0 {st:St} {p k:Nat} {es:List (List T)} (n:Nat) (hp:st.objs[p]? = some (.row k es)) (hn:n≤es.length):Wk st ⟨st.n,st.tmps.map fun e=>(e.1,e.2.mapk (V1.tohd p n)),(st.objs.map (Ob.mapk (V1.tohd p n))).set p (.row k (es.take n))⟩:=by
 intro w H F a h1
 obtain⟨v,fp,e1,e2⟩:=h1.ow hp
 have hnd:=h1.ok.nodup p
 rw[e1] at hnd
 obtain⟨A,c,fp'',hvA,hc,h3,h5,h4⟩:=e2.take hnd hn
 have hA:(if c=0 then A else A.map (·.add (0*k)))=A:=by
  split
  ·rfl
  ·cases A <;> simp[Addr.add]
 rw[hA,Gx6,Gx6] at h3
 have hkeep:Keeps w w fp:=⟨rfl,rfl,rfl,Gqi _,fun _ _ _=>rfl⟩
 obtain⟨hok,htn⟩:=h1.ok.turn (p:=p) (fp:=fp) Bxe hkeep (.ow (.sl k (es.take n)) _ fp'') h3 h4 trivial (fun b hb => .inl (h5 b hb))
 have hone:∀ x v,R1 w H F x v→R1 w (H.put p (.ow (.sl k (es.take n)) (.slice A n c) fp'')) F (V1.tohd p n x) v:=fun x u hx=>by
  cases x with
  | hd q m =>
   simp only[V1.tohd]
   obtain⟨A',m',c',x,fp',e3,rfl⟩:=hx
   split
   ·rename_i hq
    have hqp:=Gq8 hq
    subst hqp
    split
    ·rename_i hm
     have:=Gq8 hm
     subst this
     rw[e1] at e3
     simp only[Pc.ow.injEq] at e3
     obtain⟨_,e4,_⟩:=e3
     rw[hvA] at e4
     simp only[Value.slice.injEq] at e4
     obtain⟨rfl,_,rfl⟩:=e4
     exact Bzs
    ·trivial
   ·rename_i hq
    have hqp:q≠p:=fun e=>by rw[e,show Nat.beq p p=true from Gxz p] at hq; cases hq
    exact⟨A',m',c',x,fp',by rw[Hs.put_ne _ _ hqp,e3],J⟩
  |_=>exact R1.killed h1.ok htn hx
 obtain⟨hplt,_⟩:=Gqo.1 hp
 refine⟨_,h1.mapk (V1.tohd p n) hone hok ((st.objs.map (Ob.mapk (V1.tohd p n))).set p (.row k (es.take n))) (fun q=>?_),fun q b hb=>?_,htn.gh⟩
 ·by_cases hqp:q=p
  ·subst hqp
   rw[Zi (x := .row k (es.take n)) (by simp[hplt])]
   exact Bzs
  ·rw[Gqf,Gxa (Ne.symm hqp),Gqk]
   have h2:=h1.obs q
   rw[Gqf] at h2
   have h3:H.put p (.ow (.sl k (es.take n)) (.slice A n c) fp'') q=H q:=Hs.put_ne _ _ hqp
   cases ho:st.objs[q]? with
   |none=>rw[ho] at h2; exact h3.trans h2
   |some ob=>rw[ho] at h2; exact RB.mapk hone h3 h2
 ·by_cases hqp:q=p
  ·subst hqp
   rw[Hs.put_self] at hb
   exact⟨q,by rw[e1]; exact h5 b hb⟩
  ·exact⟨q,by rw[←Hs.put_ne H _ hqp]; exact hb⟩
def allP {α:Type} (f:α→Prop):List α→Prop
 | []=>True
 |x::l=>f x∧allP f l
theorem Ym {α β:Type} {f:α→Prop} {g h:α→β} (hgh:∀ x,f x→g x=h x):∀ {l:List α},allP f l→l.map g=l.map h
 | [],_=>rfl
 |x::l,hl=>by rw[List.map_cons,List.map_cons,hgh x hl.1,Ym hgh hl.2]
def V1.hdok (p n:Nat):V1→Prop
 | .hd q m=>match Nat.beq q p with
  |true=>m=n
  |false=>True
 |_=>True
def V2.hdok (p n:Nat):V2→Prop
 | .c x=>x.hdok p n
 | .ag xs=>allP (V1.hdok p n) xs
def V.hdok (p n:Nat):V→Prop
 | .o x=>x.hdok p n
 | .tu xs=>allP (V2.hdok p n) xs
 | .iff _ x=>x.hdok p n
def Ob.hdok (p n:Nat):Ob→Prop
 | .box cs=>allP (V1.hdok p n) cs
 | .gh _ x=>x.hdok p n
 | .lk x y=>x.hdok p n∧y.hdok p n
 |_=>True
def V1.tohe (p:Nat):V1→V1
 | .hd q m=>match Nat.beq q p with
  |true => .ref p
  |false => .hd q m
 |x=>x.kill [p]
theorem V1.tohe_eq {p n:Nat} (x:V1) (h:x.hdok p n):x.tohd p n=x.tohe p:=by
 cases x with
 | hd q m =>
  simp only[V1.tohd,V1.tohe]
  cases hq:Nat.beq q p with
  |true =>
   simp only[V1.hdok,hq] at h
   subst h
   simp only[show Nat.beq m m=true from Gxz m]
  |false=>rfl
 |_=>rfl
theorem V2.tohe_eq {p n:Nat} (x:V2) (h:x.hdok p n):x.mapk (V1.tohd p n)=x.mapk (V1.tohe p):=by
 cases x with
 |c x=>exact congrArg V2.c (V1.tohe_eq x h)
 |ag xs=>exact congrArg V2.ag (Ym (fun x hx=>V1.tohe_eq x hx) h)
theorem V.tohe_eq {p n:Nat} (x:V) (h:x.hdok p n):x.mapk (V1.tohd p n)=x.mapk (V1.tohe p):=by
 cases x with
 |o x=>exact congrArg V.o (V2.tohe_eq x h)
 |tu xs=>exact congrArg V.tu (Ym (fun x hx=>V2.tohe_eq x hx) h)
 |iff cs x=>exact congrArg (V.iff cs) (V2.tohe_eq x h)
theorem Ob.tohe_eq {p n:Nat} (x:Ob) (h:x.hdok p n):x.mapk (V1.tohd p n)=x.mapk (V1.tohe p):=by
 cases x with
 |box cs=>exact congrArg Ob.box (Ym (fun x hx=>V1.tohe_eq x hx) h)
 |gh i x=>exact congrArg (Ob.gh i) (V2.tohe_eq x h)
 |lk x y=>exact show Ob.lk _ _=Ob.lk _ _ by rw[V1.tohe_eq x h.1,V1.tohe_eq y h.2]
 |_=>rfl
theorem Wk.head {st:St} {p k:Nat} {es:List (List T)} (n:Nat) (hp:st.objs[p]? = some (.row k es)) (hn:n≤es.length) (ht:allP (fun e:Nat×V=>e.2.hdok p n) st.tmps) (ho:allP (Ob.hdok p n) st.objs):Wk st ⟨st.n,st.tmps.map fun e=>(e.1,e.2.mapk (V1.tohe p)),(st.objs.map (Ob.mapk (V1.tohe p))).set p (.row k (es.take n))⟩:=by
 have h:=Wk.head0 n hp hn
 rw[Ym (g:=fun e:Nat×V=>(e.1,e.2.mapk (V1.tohd p n))) (h:=fun e:Nat×V=>(e.1,e.2.mapk (V1.tohe p))) (fun e he=>by rw[V.tohe_eq e.2 he]) ht,Ym (fun x hx=>Ob.tohe_eq x hx) ho] at h
 exact h
section
variable {P:Program} {E:Env} {ops:Array Oper} {o:Oper} {st:St} {rest:List Oper} {QQ:Exit→St→Prop} {t:TypeId} {y u:Operand} {rs:List Nat} {j:Int} {m:Nat}
theorem q_hd {p kk:Nat} {es:List (List T)} {e:TypeId} {zs:List Value} {by_:Nat} [hm:TyMake P t e zs by_] (ho:o.op = .slice t y none (some u) none) (hg:o.guard=none) (hy:st.ev y = .o (.c (.ref p))) (hp:st.objs[p]? = some (.row kk es)) (hu:st.ev u = .o (.c (.rd rs (.v (.int .i64 j))))) (hkz:kk=zs.length) (h0:0≤j∧j≤es.length):Qt P ops o st (.o (.c (.hd p j.toNat))) [] m :=
 .pure hg fun a w H F h1=>by
  obtain⟨v,fp,e1,e2⟩:=h1.ow hp
  obtain⟨x',fp',e3⟩:=h1.v1 hy
  rw[e1] at e3
  simp only[Pc.ow.injEq] at e3
  obtain⟨_,hv,_⟩:=e3
  have hnd:=h1.ok.nodup p
  rw[e1] at hnd
  obtain⟨A,c,fp'',hvA,hc,h3,h5,h4⟩:=e2.take hnd (n:=j.toNat) Aqa 
  have hA:(if c=0 then A else A.map (·.add (0*kk)))=A:=by
   split
   ·rfl
   ·cases A <;> simp[Addr.add]
  have hrun:=run_slice (P:=P) (w:=w) (t:=t) (e:=e) (zs:=zs) (by_:=by_) (A:=A) (m:=es.length) (c:=c) none (some j) 0 j.toNat rfl ⟨h0.1,rfl⟩ (Gxm _) Aqa 
  rw[←hkz,hA,Gx6,Gx6] at hrun
  refine⟨.slice A j.toNat c,?_,?_⟩
  ·have hu1:=h1.plain hu
   have hvy:a.eval y = .slice A es.length c:=by rw[←hv,hvA]
   unfold execOp
   simp only[ho,Option.map_none,Gq1,hu1,hvy,Sem.run_bind]
   simp only[Option.map_none,Gq1] at hrun
   rw[hrun]
   rfl
  ·exact⟨A,es.length,c,_,_,by rw[e1,hvA],rfl⟩
end
section
variable {P:Program} {E:Env} {ops:Array Oper} {o:Oper} {st:St} {rest:List Oper} {QQ:Exit→St→Prop} {t:TypeId} {y u:Operand} {rs:List Nat} {j:Int}
end
end
section
open Go.RowKit

def V2.allk (f:V1→Prop):V2→Prop
 | .c x=>f x
 | .ag xs=>allP f xs
def V.allk (f:V1→Prop):V→Prop
 | .o x=>x.allk f
 | .tu xs=>allP (V2.allk f) xs
 | .iff _ x=>x.allk f
def Ob.allk (f:V1→Prop):Ob→Prop
 | .box cs=>allP f cs
 | .gh _ x=>x.allk f
 | .lk x y=>f x∧f y
 |_=>True
section
variable {f:V1→Prop} {g h:V1→V1} (hgh:∀ x,f x→g x=h x)
include hgh
theorem V2.allk_eq (x:V2) (hx:x.allk f):x.mapk g=x.mapk h:=by
 cases x with
 |c x=>exact congrArg V2.c (hgh x hx)
 |ag xs=>exact congrArg V2.ag (Ym hgh hx)
theorem V.allk_eq (x:V) (hx:x.allk f):x.mapk g=x.mapk h:=by
 cases x with
 |o x=>exact congrArg V.o (V2.allk_eq hgh x hx)
 |tu xs=>exact congrArg V.tu (Ym (V2.allk_eq hgh) hx)
 |iff cs x=>exact congrArg (V.iff cs) (V2.allk_eq hgh x hx)
theorem Ob.allk_eq (x:Ob) (hx:x.allk f):x.mapk g=x.mapk h:=by
 cases x with
 |box cs=>exact congrArg Ob.box (Ym hgh hx)
 |gh i x=>exact congrArg (Ob.gh i) (V2.allk_eq hgh x hx)
 |lk x y=>exact show Ob.lk _ _=Ob.lk _ _ by rw[hgh x hx.1,hgh y hx.2]
 |_=>rfl
end
def V1.leok (p kk i j:Nat):V1→Prop
 | .le q k a b=>match Nat.beq q p with
  |true=>k=kk∧a=i∧b=j
  |false=>True
 |_=>True
def V1.tole (p m:Nat):V1→V1
 | .le q k a b=>match Nat.beq q p with
  |true => .ref m
  |false=>(V1.le q k a b).killw [p,m] [p]
 |x=>x.killw [p,m] [p]
def V1.tole0 (p m kk i j:Nat):V1→V1
 | .le q k a b=>match Nat.beq q p with
  |true=>if k=kk∧a=i∧b=j then .ref m else .un
  |false=>(V1.le q k a b).killw [p,m] [p]
 |x=>x.killw [p,m] [p]
end
section
open Go.RowKit
end
section
open Go.RowKit
end
end Go.Proofs.YtalaljeokcpfnaaGreat
