/-
  Rules, data and contracts of functions: part 37 of the proof.
  Conditions: those that each theorem names.
-/
import Derived.Test.YtpmacgnmlmmojaaGreatDoorDDRBRowk35
set_option linter.unusedSimpArgs false
set_option linter.unusedVariables false
set_option maxRecDepth 8000
set_option maxHeartbeats 8000000
namespace Go.Proofs.YtpmacgnmlmmojaaGreatDoor
section
open Go.RowKit

theorem uz_end {s:ByteArray} {b:Bool} {pos:Nat} (h:¬pos<s.size) (f:Nat) (acc:List UInt8):uzGo s b f pos acc=some acc:=by
 cases f with
 |zero=>rw[uzGo,if_neg h]
 |succ f=>rw[uzGo,if_neg h]
section
variable {s:ByteArray} {b:Bool} {pos f j k:Nat} {acc:List UInt8} {n:Int} {t:ByteArray} (hp:pos<s.size)
include hp
theorem uz_none1 (h:decVar s pos=none):uzGo s b (f+1) pos acc=none:=by rw[uzGo,if_pos hp,h]
theorem uz_none2 (h:decVar s pos=some (n,j)) (h2:unpackText s ((pos:Int)+(j:Int))=none):uzGo s b (f+1) pos acc=none:=by
 rw[uzGo,if_pos hp,h]
 simp only[h2]
theorem uz_big (h:decVar s pos=some (n,j)) (h2:unpackText s ((pos:Int)+(j:Int))=some (t,k)) (hb:(20000:Int)-acc.length<n+t.size):uzGo s b (f+1) pos acc=none:=by
 rw[uzGo,if_pos hp,h]
 simp only[h2]
 rw[if_pos hb]
theorem uz_big1 (h:decVar s pos=some (n,j)) (hb:(20000:Int)-acc.length<n):uzGo s b (f+1) pos acc=none:=by
 cases h2:unpackText s ((pos:Int)+(j:Int)) with
 |none=>exact uz_none2 hp h h2
 |some r=>obtain⟨t,k⟩:=r; exact uz_big hp h h2 (by omega)
theorem uz_emp (h:decVar s pos=some (n,j)) (h2:unpackText s ((pos:Int)+(j:Int))=some (t,k)) (he:n=0∧t.size=0):uzGo s true (f+1) pos acc=none:=by
 by_cases hb:(20000:Int)-acc.length<n+t.size
 ·exact uz_big hp h h2 hb
 rw[uzGo,if_pos hp,h]
 simp only[h2]
 rw[if_neg hb,if_pos ⟨trivial,he⟩]
theorem uz_step (h:decVar s pos=some (n,j)) (h2:unpackText s ((pos:Int)+(j:Int))=some (t,k)) (hb:¬(20000:Int)-acc.length<n+t.size) (he:b=true→¬(n=0∧t.size=0)):uzGo s b (f+1) pos acc=uzGo s b f (pos+j+k) (acc++List.replicate n.toNat 0++t.data.toList):=by
 rw[uzGo,if_pos hp,h]
 simp only[h2]
 rw[if_neg hb,if_neg (fun q=>he q.1 q.2)]
end
theorem bE_rep (z:Nat):bE (List.replicate z 0)=List.replicate z [.v (.int .u8 0)]:=by simp[bE]
theorem unpackZ_len {b:Bool} {s t:ByteArray} (h:unpackZ b s=some t):t.size≤20000:=by
 unfold unpackZ at h
 cases hu:uzGo s b s.size 0 [] with
 |none=>rw[hu] at h; cases h
 |some out =>
  rw[hu] at h
  simp only at h
  split at h
  ·cases h; rw[Ys]; exact uz_len s b _ _ _ _ (by simp) hu
  ·cases h
theorem I_UnpackZeros (s:ByteArray) (hs:s.size≤1099511627775):Con Tryz.prog 195 [] [astr s] [] (otR (unpackZ true s)):=by
 refine Con.of Tryz.func195 J Tryz.ntmps195 J (fun E => ?_)
 refine Wz [1,34,11,36,36,12,33] ?_
 refine AWP.pre ?_ (W_nil 4 1 J)
 refine Xi (fun m__ st=>∃ (pos:Nat) (acc:List UInt8) (f:Nat),s.size-pos=m__∧(s.size≤pos+f∧pos≤s.size∧acc.length≤20000∧uzGo s true f pos acc=uzGo s true s.size 0 [])∧st=(⟨_,[(0,S s),(4,.o (.c (.ref 0))),(5,I pos)],[.row 1 (bE acc)]⟩:St)) _ ⟨_,⟨0,[],s.size,J,⟨by omega,by omega,by simp,J⟩,J⟩,Gs [0]⟩ ?_
 rintro m_A _ ⟨pos,acc,f,hk_A,hp_A,rfl⟩
 obtain⟨hfu,hps,hal,hgo⟩:=hp_A
 have hla:=Ym acc
 by_cases hlt:pos<s.size
 ·have hb:decide ((pos:Int)<s.size)=true:=Gqb (by omega)
  have hd:=Xr s (pos:Int) (by omega) ⟨by omega,by omega⟩
  obtain⟨g,rfl⟩:∃ g,f=g+1:=⟨f-1,by omega⟩
  cases hv:decVar s (pos:Int) with
  |none =>
   rw[hv] at hd
   rw[show unpackZ true s=none by rw[unpackZ,←hgo,uz_none1 hlt hv]]
   refine Wz [50,57,124,37,125,20,56,28,34,85,134,73] ?_
   exact Xp J J J (Gr [] J J J)
  | some r =>
   obtain⟨n,j⟩:=r
   rw[hv] at hd
   have hm:=Y3 hv
   obtain⟨z,rfl⟩:∃ z:Nat,n=z:=⟨n.toNat,by omega⟩
   by_cases hbig:(20000:Int)-acc.length<z
   ·have hb2:decide ((20000:Int)-((bE acc).length:Int)<z)=true:=Gqb (by omega)
    rw[show unpackZ true s=none by rw[unpackZ,←hgo,uz_big1 hlt hv hbig]]
    refine Wz [50,57,124,37,125,69,58,87,113,28,34,85,134,73] ?_
    exact Xp J J J (Gr [] J J J)
   have hb2:decide ((20000:Int)-((bE acc).length:Int)<z)=false:=Gqa (by omega)
   have hut:=Xw s ((pos:Int)+(j:Int)) (by omega) ⟨by omega,by omega⟩
   cases hu:unpackText s ((pos:Int)+(j:Int)) with
   |none =>
    rw[hu] at hut
    rw[show unpackZ true s=none by rw[unpackZ,←hgo,uz_none2 hlt hv hu]]
    refine Wz [50,57,124,37,125,69,58,87,113,86,136,37] ?_;refine V6 (Kh J J (hut) J J J) J ?_;refine Wz [78,20,165,9,28,34,85,134,73] ?_
    exact Xp J J J (Gr [] J J J)
   | some r =>
    obtain⟨t,k⟩:=r
    rw[hu] at hut
    have hus:=Vm hu
    by_cases hbig2:(20000:Int)-acc.length<z+t.size
    ·have hb3:decide ((20000:Int)-((bE acc).length:Int)-z<t.size)=true:=Gqb (by omega)
     rw[show unpackZ true s=none by rw[unpackZ,←hgo,uz_big hlt hv hu hbig2]]
     refine Wz [50,57,124,37,125,69,58,87,113,86,136,37] ?_;refine V6 (Kh J J (hut) J J J) J ?_;refine Wz [78,8,106,18,58,87,18,87,113,28,34,85,134,73] ?_
     exact Xp J J J (Gr [] J J J)
    have hb3:decide ((20000:Int)-((bE acc).length:Int)-z<t.size)=false:=Gqa (by omega)
    have hz1:(bE (List.replicate z 0)).length=z:=by rw[Ym,Gxs]
    have ht1:t.data.toList.length=t.size:=by simp
    by_cases hemp:(z:Int)=0∧t.size=0
    ·have e1:decide ((z:Int)=0)=true:=Gqb hemp.1
     have e2:decide ((t.size:Int)=0)=true:=Gqb (by omega)
     rw[show unpackZ true s=none by rw[unpackZ,←hgo,uz_emp hlt hv hu hemp]]
     refine Wz [50,57,124,37,125,69,58,87,113,86,136,37] ?_;refine V6 (Kh J J (hut) J J J) J ?_;refine Wz [78,8,106,18,58,87,18,87,113,86,136,37] ?_;refine M_appz 9 J J J J J J J (by omega) ?_;refine Wz [96] ?_
     refine X4 J J J J J J J (by simp only[Gqe]; omega) (by simp only[Gqe]; omega) ?_;refine z1 J ?_
     refine Wz [2,10,13,8,106,13,9,28,34,88,134,73] ?_
     exact Xp J J J (Gr [] J J J)
    have hgo2:=uz_step (acc:=acc) (f:=g) (b:=true) hlt hv hu hbig2 (fun _=>hemp)
    rw[hgo,show ((z:Int)).toNat=z by omega] at hgo2
    by_cases hz0:(z:Int)=0
    ·have e1:decide ((z:Int)=0)=true:=Gqb hz0
     have e2:decide ((t.size:Int)=0)=false:=Gqa (by omega)
     refine Wz [50,57,124,37,125,69,58,87,113,86,136,37] ?_;refine V6 (Kh J J (hut) J J J) J ?_;refine Wz [78,8,106,18,58,87,18,87,113,86,136,37] ?_;refine M_appz 9 J J J J J J J (by omega) ?_;refine Wz [96] ?_
     refine X4 J J J J J J J (by simp only[Gqe]; omega) (by simp only[Gqe]; omega) ?_;refine z1 J ?_
     refine Wz [2,10,13,8,106,13,9,62] ?_
     refine⟨_,(by omega),_,⟨pos+j+k,acc++List.replicate z 0++t.data.toList,g,J,⟨by omega,by omega,by simp only[Gqe,Gxs]; omega,hgo2.symm⟩,J⟩,(by rw[Yl,Yl]; exact Gs [0])⟩
    ·have e1:decide ((z:Int)=0)=false:=Gqa hz0
     refine Wz [50,57,124,37,125,69,58,87,113,86,136,37] ?_;refine V6 (Kh J J (hut) J J J) J ?_;refine Wz [78,8,106,18,58,87,18,87,113,86,136,37] ?_;refine M_appz 9 J J J J J J J (by omega) ?_;refine Wz [96] ?_
     refine X4 J J J J J J J (by simp only[Gqe]; omega) (by simp only[Gqe]; omega) ?_;refine z1 J ?_
     refine Wz [2,10,13,91,114,7,62] ?_
     refine⟨_,(by omega),_,⟨pos+j+k,acc++List.replicate z 0++t.data.toList,g,J,⟨by omega,by omega,by simp only[Gqe,Gxs]; omega,hgo2.symm⟩,J⟩,(by rw[Yl,Yl]; exact Gs [0])⟩
 ·have hb:decide ((pos:Int)<s.size)=false:=Gqa (by omega)
  have hend:=uz_end (b:=true) hlt f acc
  have hpk:=I_PackZeros (bs acc) (by rw[Ys]; omega)
  rw[Yr] at hpk
  by_cases heq:bs (packZ acc)=s
  ·have e1:decide (bs (packZ acc)≠s)=false:=Gqa (fun q=>q heq)
   rw[show unpackZ true s=some (bs acc) by rw[unpackZ,←hgo,hend]; simp only[]; rw[if_pos heq]]
   refine Wz [50,5,61,25,194] ?_;refine zx (Qj J J (hpk) J) J ?_;refine Wz [0,201,76,194,34,19] ?_
   exact Xp J J J (Gr [] J J J)
  ·have e1:decide (bs (packZ acc)≠s)=true:=Gqb heq
   rw[show unpackZ true s=none by rw[unpackZ,←hgo,hend]; simp only[]; rw[if_neg heq]]
   refine Wz [50,5,61,25,194] ?_;refine zx (Qj J J (hpk) J) J ?_;refine Wz [0,201,28,34,31] ?_
   exact Xp J J J (Gr [] J J J)
theorem S_UnpackZeros (s:ByteArray) (hs:s.size≤1099511627775):Con Tryz.prog 269 [] [astr s] [] (otR (unpackZ false s)):=by
 refine Con.of Tryz.func269 J Tryz.ntmps269 J (fun E => ?_)
 refine Wz [1,34,11,36,12,63] ?_;refine Xi (fun m__ st=>∃ (pos:Nat) (acc:List UInt8) (f:Nat),s.size-pos=m__∧(s.size≤pos+f∧pos≤s.size∧acc.length≤20000∧uzGo s false f pos acc=uzGo s false s.size 0 [])∧st=(⟨_,[(0,S s),(4,S (bs acc)),(5,I pos)],[]⟩:St)) _ ⟨_,⟨0,[],s.size,J,⟨by omega,by omega,by simp,J⟩,J⟩,Gs []⟩ ?_
 rintro m_A _ ⟨pos,acc,f,hk_A,hp_A,rfl⟩
 obtain⟨hfu,hps,hal,hgo⟩:=hp_A
 have hla:=Ys acc
 by_cases hlt:pos<s.size
 ·have hb:decide ((pos:Int)<s.size)=true:=Gqb (by omega)
  have hd:=X7 s (pos:Int) (by omega) ⟨by omega,by omega⟩
  obtain⟨g,rfl⟩:∃ g,f=g+1:=⟨f-1,by omega⟩
  cases hv:decVar s (pos:Int) with
  |none =>
   rw[hv] at hd
   have hut:=S_UnpackText s ((pos:Int)+(0:Int)) (by omega) ⟨by omega,by omega⟩
   rw[show unpackText s ((pos:Int)+(0:Int))=none by rw[Int.add_zero,unpackText,hv]] at hut
   rw[show unpackZ false s=none by rw[unpackZ,←hgo,uz_none1 hlt hv]]
   refine Wz [50,57,124,37,235,214,96,46] ?_;refine V6 (Kh J J (hut) J J J) J ?_;refine Wz [78,91,9,20,165,9,28,34,85,134,73] ?_
   exact Xp J J J (Gr [] J J J)
  | some r =>
   obtain⟨n,j⟩:=r
   rw[hv] at hd
   have hm:=Y3 hv
   obtain⟨z,rfl⟩:∃ z:Nat,n=z:=⟨n.toNat,by omega⟩
   have hut:=S_UnpackText s ((pos:Int)+(j:Int)) (by omega) ⟨by omega,by omega⟩
   cases hu:unpackText s ((pos:Int)+(j:Int)) with
   |none =>
    rw[hu] at hut
    rw[show unpackZ false s=none by rw[unpackZ,←hgo,uz_none2 hlt hv hu]]
    refine Wz [50,57,124,37,235,214,96,46] ?_;refine V6 (Kh J J (hut) J J J) J ?_;refine Wz [78,8,265,20,165,9,28,34,85,134,73] ?_
    exact Xp J J J (Gr [] J J J)
   | some r =>
    obtain⟨t,k⟩:=r
    rw[hu] at hut
    have hus:=Vm hu
    by_cases hbig2:(20000:Int)-acc.length<z+t.size
    ·have hb3:decide ((20000:Int)-((bs acc).size:Int)<(z:Int)+(t.size:Int))=true:=Gqb (by omega)
     rw[show unpackZ false s=none by rw[unpackZ,←hgo,uz_big hlt hv hu hbig2]]
     refine Wz [50,57,124,37,235,214,96,46] ?_;refine V6 (Kh J J (hut) J J J) J ?_;refine Wz [78,8,265,69,106,35,3,18,106,87,113,28,34,85,134,73] ?_
     exact Xp J J J (Gr [] J J J)
    have hb3:decide ((20000:Int)-((bs acc).size:Int)<(z:Int)+(t.size:Int))=false:=Gqa (by omega)
    have hgo2:=uz_step (acc:=acc) (f:=g) (b:=false) hlt hv hu hbig2 (fun q=>by cases q)
    rw[hgo,show ((z:Int)).toNat=z by omega] at hgo2
    have ht1:t.data.toList.length=t.size:=by simp
    have hz2:=Ys (List.replicate z (0:UInt8))
    rw[Gxs] at hz2
    have hz3:(bs acc++bs (List.replicate z (0:UInt8))).size=acc.length+z:=by rw[Yq,Ys,Gqe,Gxs]
    have hz4:(⟨(List.replicate z (0:UInt8)).toArray⟩:ByteArray).size=z:=hz2
    have hz5:(bs acc++(⟨(List.replicate z (0:UInt8)).toArray⟩:ByteArray)).size=acc.length+z:=hz3
    have hS:bs acc++bs (List.replicate z 0)++t=bs (acc++List.replicate z 0++t.data.toList):=by rw[←Yq,←Yq,bs_of t]
    refine Wz [50,57,124,37,235,214,96,46] ?_;refine V6 (Kh J J (hut) J J J) J ?_;refine Wz [78,8,265,69,106,35,3,18,106,87,113,86] ?_;refine V6 (q_make 0 J J J J (by omega) (by omega) (by omega) J (by decide)) J ?_;refine AL.weak (st':=(⟨_,[(0,S s),(5,I pos),(6,I z),(7,I j),(9,S t),(10,I k),(48,S (bs acc)),(50,.o (.c (.ref 0)))],[.row 1 (bE (List.replicate z 0))]⟩:St)) (Yg [0] (by decide) J ((K7 (bE_rep z))) (.c J (.c J (.c J (.c J (.c J (.c J (.c J (.c J (.nil)))))))))) ?_;refine Wz [194,210,0,210,11,22,46,46,127] ?_
    refine⟨_,(by omega),(fun (pos:Nat) (acc:List UInt8) (f:Nat)=>(⟨_,[(0,S s),(4,S (bs acc)),(5,I pos)],[]⟩:St)) (pos+j+k) (acc++List.replicate z 0++t.data.toList) (g),⟨pos+j+k,acc++List.replicate z 0++t.data.toList,g,J,⟨by omega,by omega,by simp only[Gqe,Gxs]; omega,hgo2.symm⟩,J⟩,Gp [] J (.c J (.cons (S_eq hS) (.c J (.nil))))⟩
 ·have hb:decide ((pos:Int)<s.size)=false:=Gqa (by omega)
  have hend:=uz_end (b:=false) hlt f acc
  have hpk:=S_PackZeros (bs acc) (by rw[Ys]; omega)
  rw[Yr] at hpk
  by_cases heq:bs (packZ acc)=s
  ·have e1:decide (bs (packZ acc)≠s)=false:=Gqa (fun q=>q heq)
   rw[show unpackZ false s=some (bs acc) by rw[unpackZ,←hgo,hend]; simp only[]; rw[if_pos heq]]
   refine Wz [50,5,61,25] ?_;refine zx (Qj J J (hpk) J) J ?_;refine Wz [0,201,76,34,19] ?_
   exact Xp J J J (Gr [] J J J)
  ·have e1:decide (bs (packZ acc)≠s)=true:=Gqb heq
   rw[show unpackZ false s=none by rw[unpackZ,←hgo,hend]; simp only[]; rw[if_neg heq]]
   refine Wz [50,5,61,25] ?_;refine zx (Qj J J (hpk) J) J ?_;refine Wz [0,201,28,34,31] ?_
   exact Xp J J J (Gr [] J J J)
def applyD (base delta:ByteArray):Option ByteArray:=match decVar delta 0 with
 |none=>none
 |some (n,j)=>match unpackZ true (delta.extract j delta.size) with
  |none=>none
  |some x=>if (x.size:Int)=n then some (xorText base x) else none
theorem xor_size (a b:ByteArray):(xorText a b).size=b.size:=by
 rw[xorText,Ys,Vv]; simp
theorem applyD_len {a d t:ByteArray} (h:applyD a d=some t):t.size≤20000:=by
 unfold applyD at h
 split at h
 ·cases h
 ·split at h
  ·cases h
  ·rename_i x hx
   split at h
   ·cases h; rw[xor_size]; exact unpackZ_len hx
   ·cases h
theorem I_ApplyDelta (base delta:ByteArray) (hb:base.size≤1099511627775) (hs:delta.size≤1099511627775):Con Tryz.prog 127 [] [astr base,astr delta] [] (otR (applyD base delta)):=by
 have hd:=Xr delta 0 (by omega) ⟨by omega,by omega⟩
 cases hv:decVar delta 0 with
 |none =>
  rw[hv] at hd
  rw[show applyD base delta=none by rw[applyD,hv]]
  refine Con.of Tryz.func127 J Tryz.ntmps127 J (fun E => ?_)
  refine Wz [1,34,32,125,28,34,31] ?_
  exact Xp J J J (Gr [] J J J)
 | some r =>
  obtain⟨n,j⟩:=r
  rw[hv] at hd
  have hm:=Y3 hv
  have hz:=I_UnpackZeros (delta.extract j delta.size) (by rw[Gxe]; omega)
  have he:=unpackZ_eq (delta.extract j delta.size) (by rw[Gxe]; omega)
  try rw[←he] at hz
  cases hu:unpackZ true (delta.extract j delta.size) with
  |none =>
   rw[hu] at hz
   rw[show applyD base delta=none by rw[applyD,hv]; simp only[hu]]
   refine Con.of Tryz.func127 J Tryz.ntmps127 J (fun E => ?_)
   refine Wz [1,34,32,125,86,215] ?_;refine V6 (Kh J J (hz) J J J) J ?_;refine Wz [118,130,20,9,28,34,31] ?_
   exact Xp J J J (Gr [] J J J)
  | some x =>
   rw[hu] at hz
   have hx:=I_XorText base x (by omega) (by have:=unpackZ_len hu; omega)
   by_cases hn:(x.size:Int)=n
   ·have e1:decide ((x.size:Int)≠n)=false:=Gqa (fun q=>q hn)
    rw[show applyD base delta=some (xorText base x) by rw[applyD,hv]; simp only[hu]; rw[if_pos hn]]
    refine Con.of Tryz.func127 J Tryz.ntmps127 J (fun E => ?_)
    refine Wz [1,34,32,125,86,215] ?_;refine V6 (Kh J J (hz) J J J) J ?_;refine Wz [118,130,8,106,18,116,86] ?_;refine zx (Qj J J (hx) J) J ?_;refine Wz [34,19] ?_
    exact Xp J J J (Gr [] J J J)
   ·have e1:decide ((x.size:Int)≠n)=true:=Gqb hn
    rw[show applyD base delta=none by rw[applyD,hv]; simp only[hu]; rw[if_neg hn]]
    refine Con.of Tryz.func127 J Tryz.ntmps127 J (fun E => ?_)
    refine Wz [1,34,32,125,86,215] ?_;refine V6 (Kh J J (hz) J J J) J ?_;refine Wz [118,130,8,106,18,116,28,34,31] ?_
    exact Xp J J J (Gr [] J J J)
theorem S_ApplyDelta (base delta:ByteArray) (hb:base.size≤1099511627775) (hs:delta.size≤1099511627775):Con Tryz.prog 246 [] [astr base,astr delta] [] (otR (applyD base delta)):=by
 have hd:=X7 delta 0 (by omega) ⟨by omega,by omega⟩
 cases hv:decVar delta 0 with
 |none =>
  rw[hv] at hd
  rw[show applyD base delta=none by rw[applyD,hv]]
  refine Con.of Tryz.func246 J Tryz.ntmps246 J (fun E => ?_)
  refine Wz [1,34,32,125,28,34,31] ?_
  exact Xp J J J (Gr [] J J J)
 | some r =>
  obtain⟨n,j⟩:=r
  rw[hv] at hd
  have hm:=Y3 hv
  have hz:=S_UnpackZeros (delta.extract j delta.size) (by rw[Gxe]; omega)
  have he:=unpackZ_eq (delta.extract j delta.size) (by rw[Gxe]; omega)
  try rw[←he] at hz
  cases hu:unpackZ true (delta.extract j delta.size) with
  |none =>
   rw[hu] at hz
   rw[show applyD base delta=none by rw[applyD,hv]; simp only[hu]]
   refine Con.of Tryz.func246 J Tryz.ntmps246 J (fun E => ?_)
   refine Wz [1,34,32,125,86,215] ?_;refine V6 (Kh J J (hz) J J J) J ?_;refine Wz [118,130,20,9,28,34,31] ?_
   exact Xp J J J (Gr [] J J J)
  | some x =>
   rw[hu] at hz
   have hx:=S_XorText base x (by omega) (by have:=unpackZ_len hu; omega)
   by_cases hn:(x.size:Int)=n
   ·have e1:decide ((x.size:Int)≠n)=false:=Gqa (fun q=>q hn)
    rw[show applyD base delta=some (xorText base x) by rw[applyD,hv]; simp only[hu]; rw[if_pos hn]]
    refine Con.of Tryz.func246 J Tryz.ntmps246 J (fun E => ?_)
    refine Wz [1,34,32,125,86,215] ?_;refine V6 (Kh J J (hz) J J J) J ?_;refine Wz [118,130,8,106,18,116,86] ?_;refine zx (Qj J J (hx) J) J ?_;refine Wz [34,19] ?_
    exact Xp J J J (Gr [] J J J)
   ·have e1:decide ((x.size:Int)≠n)=true:=Gqb hn
    rw[show applyD base delta=none by rw[applyD,hv]; simp only[hu]; rw[if_neg hn]]
    refine Con.of Tryz.func246 J Tryz.ntmps246 J (fun E => ?_)
    refine Wz [1,34,32,125,86,215] ?_;refine V6 (Kh J J (hz) J J J) J ?_;refine Wz [118,130,8,106,18,116,28,34,31] ?_
    exact Xp J J J (Gr [] J J J)
end
section
open Go.RowKit

theorem I_ReadWorld (lv:TLevel) (s:ByteArray) (hg:Enc.gd lv) (hL:lv.Rows.length≤1048576) (hs:s.size≤1099511627776):Con Tryz.prog 128 [] [ag lv,astr s] (ownO (Enc.e (rwW (readWorld lv s)))) (.tu [.ag (ownV 0 (Enc.e (rwW (readWorld lv s)))),.c (bv (rwB (readWorld lv s)))]):=by
 have hui:=I_UnpackInts s 0 hs ⟨by omega,by omega⟩
 cases hu:unpackInts s 0 with
 |none =>
  rw[hu] at hui
  rw[K5 hu]
  refine Con.of Tryz.func128 J Tryz.ntmps128 J (fun E => ?_)
  refine Wz [51,32] ?_;refine V6 (Kh J J (hui) J J J) J ?_;refine Wz [78,20,9,91,56,93] ?_
  exact G4 J J (Ye [1,1,9] [3,4,5] J J (by decide) J J J)
 | some r =>
  obtain⟨l,pos⟩:=r
  rw[hu] at hui
  obtain⟨_,hu1,hu2,hu3,hu4⟩:=Vj hu
  have hll:=Y9 l
  refine Con.of Tryz.func128 J Tryz.ntmps128 J (fun E => ?_)
  refine Wz [51,32] ?_;refine V6 (Kh J J (hui) J J J) J ?_;refine Wz [78,69,106,149,7,89] ?_;refine zx (Uk J (.hit .stop) (fun hgrd=>Kq J J J J)) J ?_;refine zx (Uk J (.hit (.hit .stop)) (fun hgrd=>Ku J J J J)) J ?_;refine Wz [110] ?_
  refine Xb J (fun h => ?_) (fun h => ?_)
  ·simp only[Gqs,decide_eq_true_eq] at h
   rw[K4 hu (fun hh=>by have:=hh.2.1.1; omega)]
   refine Wz [1,229] ?_
   exact G4 J J (Ye [1,1,9] [3,4,5] J J (by decide) J J J)
  simp only[Gqv,decide_eq_false_iff_not] at h
  have ha0:=Y8 (l:=l) (j:=0) (by omega) 0 rfl
  have ha1:=Y8 (l:=l) (j:=1) (by omega) 1 rfl
  have ha2:=Y8 (l:=l) (j:=2) (by omega) 2 rfl
  obtain⟨l2,hl2⟩:∃ l2,l.getD 2 0=l2:=⟨_,rfl⟩
  rw[hl2] at ha2
  have hl264:I64 l2:=by
   rw[←hl2,Gqc,Gqd (by omega)]
   exact hu4 _ (Gql _)
  have hl21:=hl264.1
  have hl22:=hl264.2
  have hbt:=Xx l2 1 4
  by_cases hin:inR l2 1 4=true
  case neg =>
   have hf:inR l2 1 4=false:=by simpa using hin
   rw[hf] at hbt
   rw[K4 hu (fun hh=>by have:=hh.2.1.2.1; rw[hl2,←Zn] at this; exact hin this)]
   refine Wz [54,10,41,70,52] ?_;refine zx (Qj J J (hbt) J) J ?_;refine Wz [16,20,56,93] ?_
   exact G4 J J (Ye [1,1,9] [3,4,5] J J (by decide) J J J)
  rw[hin] at hbt
  have hin2:=Zn.1 hin
  obtain⟨p,rfl⟩:∃ p:Nat,l2=p:=⟨l2.toNat,by omega⟩
  refine Wz [54,10,41,70,52] ?_;refine zx (Qj J J (hbt) J) J ?_;refine Wz [16,8,58,18,35,3,100,7,2] ?_
  refine Xb J (fun h2 => ?_) (fun h2 => ?_)
  ·have h2:=Gqi h2
   rw[K4 hu (fun hh=>by have:=hh.2.1.2.2.1; omega)]
   refine Wz [1,229] ?_
   exact G4 J J (Ye [1,1,9] [3,4,5] J J (by decide) J J J)
  have h2:=Gqj h2
  refine Wz [72] ?_;refine Xh [[],[0],[],[2],[2,3],[],[5],[5,6],(u9 8),[],(u9 10)] [[],[48],[],[50],[50,51],[],[53],[53,54],[48,49,50,51,52,53,54,55],[],[10,48,49,50,51,52,53,54,55,56]] [[10,50,51,52,53,54,55],[10,50,51,52,53,54,55],[10,48,49,53,54,55],[10,48,49,53,54,55],[10,48,49,53,54,55],[10,48,49,50,51,52],[10,48,49,50,51,52],[10,48,49,50,51,52],[10],[48,49,50,51,52,53,54,55,56],[]] J (Vx (Qu J J J J J J) J ?_);refine Vx (Kh J J (Xy lv hg hL) J J J) J ?_;refine Wz [4,79,109,4,79,109,260,184,17] ?_;refine AL.weak (st':=(⟨_,[(4,.o (.c (.ptr 1 0))),(6,.o (.c (.ref 2))),(9,I p),(10,.o (.c (.ptr 4 0))),(56,.o (.ag [.ref 3,jv (l.getD 0 0),jv (l.getD 1 0),nilV,nilV]))],[.box ((Enc.e lv).map (V1.rd [])),.box [nilV,jv 0,jv 0,nilV,nilV],.row 1 (els l),.row 1 (els lv.Rows),.box [nilV,jv 0,jv 0,nilV,nilV]]⟩:St)) (Gs [0,1,2,3,4]) ?_
  have hpl:(p:Int)≤4:=hin2.2
  have hcl:=Clone_ints ((l.drop 3).take p) (by simp; omega) (by simp; omega)
  rw[show al ((l.drop 3).take p) = .c (.rd [] (.sl 1 (((els l).take ((3:Int)+(p:Int)).toNat).drop (3:Int).toNat))) by
   rw[show ((3:Int)+(p:Int)).toNat=3+p by omega,show (3:Int).toNat=3 from rfl,List.drop_take,←els_dropE,←Zc,show 3+p-3=p by omega]; rfl] at hcl
  obtain⟨rest,hrest⟩:∃ rest,rest=l.drop (3+p):=⟨_,rfl⟩
  have hre:(els l).drop ((3:Int)+(p:Int)).toNat=els rest:=by rw[show ((3:Int)+(p:Int)).toNat=3+p by omega,←els_dropE,hrest]
  have hrl:rest.length=l.length-(3+p):=by rw[hrest]; simp
  have hrl2:=Y9 rest
  have hdl:((els l).drop ((3:Int)+(p:Int)).toNat).length=l.length-(3+p):=by rw[Gq0,hll]; congr 1
  refine Wz [138,37,35] ?_;refine zx (q_partr J J J J J J J (by omega)) J ?_;refine V6 (Kh J J (hcl) J J J) J ?_;refine Wz [60,37,35] ?_;refine zx (q_partr1 J J J J J J (by omega)) J ?_;refine Wz [52,21,111,149,89] ?_;refine zx (Uk J (.hit .stop) (fun hgrd=>Kp J J J)) J ?_;refine zx (Uk J (.hit (.hit .stop)) (fun hgrd=>Ky J J J J (by omega))) J ?_;refine Wz [251,110] ?_
  refine Xb J (fun h3 => ?_) (fun h3 => ?_)
  ·simp only[Gqs,decide_eq_true_eq] at h3
   rw[K4 hu (fun hh=>by
    have h8:=hh.2.1.2.2.2
    have h9:=(Vr hh.2.2).2.2.2.2.2.1.2
    have h10:(worldOf lv l).Bodies.length=(l.length-3-(l.getD 2 0).toNat)/9:=Yp _ _
    rw[hl2] at h8 h10
    omega)]
   refine Wz [1,229] ?_
   exact G4 J J (Ye [1,1,9] [6,7,8] J J (by decide) J J J)
  simp only[Gqv,decide_eq_false_iff_not] at h3
  obtain⟨nb,hn⟩:∃ nb,rest.length=9*nb:=⟨rest.length/9,by omega⟩
  have hform:formOk l:=⟨by omega,by rw[hl2]; exact hin2,by rw[hl2]; omega,by rw[hl2]; omega⟩
  have hwo:worldOf lv l=⟨lv,l.getD 0 0,l.getD 1 0,(l.drop 3).take p,bodiesOf rest nb⟩:=by
   rw[worldOf,hl2,Int.toNat_natCast,←hrest,show (l.length-3-p)/9=nb by omega]
  have hwg:=worldOf_gd (lv:=lv) hg hu4 (by omega)
  rw[hwo] at hwg
  refine AWP.pre (st':=(⟨_,[(4,.o (.c (.ptr 1 0))),(10,.o (.c (.ptr 4 0))),(11,.o (.c (.rd [2] (.sl 1 (els rest)))))],[.box ((Enc.e lv).map (V1.rd [])),.box [nilV,jv 0,jv 0,nilV,nilV],.row 1 (els l),.row 1 (els lv.Rows),.box [.ref 3,jv (l.getD 0 0),jv (l.getD 1 0),.ref 5,nilV],.row 1 (els ((l.drop 3).take p))]⟩:St)) ?_ (Gp [0,1,2,3,4,5] J (.c J (.c J (.cons (rdE hre) (.nil)))))
  refine AWP.pre ?_ (Wk.nilbox (p:=4) (i:=4) 9 J J)
  refine Wz [72,63] ?_;refine Xi (fun m st=>∃ k:Nat,k+m=nb∧(True)∧st=(⟨_,[(4,.o (.c (.ptr 1 0))),(10,.o (.c (.ptr 4 0))),(11,.o (.c (.rd [2] (.sl 1 (els rest))))),(12,I (9*(k:Int)))],[.box ((Enc.e lv).map (V1.rd [])),.box [nilV,jv 0,jv 0,nilV,nilV],.row 1 (els l),.row 1 (els lv.Rows),.box [.ref 3,jv (l.getD 0 0),jv (l.getD 1 0),.ref 5,.ref 6],.row 1 (els ((l.drop 3).take p)),.row 9 (els (bodiesOf rest k))]⟩:St)) (nb) ⟨(fun k:Nat=>(⟨_,[(4,.o (.c (.ptr 1 0))),(10,.o (.c (.ptr 4 0))),(11,.o (.c (.rd [2] (.sl 1 (els rest))))),(12,I (9*(k:Int)))],[.box ((Enc.e lv).map (V1.rd [])),.box [nilV,jv 0,jv 0,nilV,nilV],.row 1 (els l),.row 1 (els lv.Rows),.box [.ref 3,jv (l.getD 0 0),jv (l.getD 1 0),.ref 5,.ref 6],.row 1 (els ((l.drop 3).take p)),.row 9 (els (bodiesOf rest k))]⟩:St)) 0,⟨0,by omega,trivial,J⟩,Gp [0,1,2,3,4,5,6] J (.c J (.c J (.c J (.cons (Xz (by simp)) (.nil)))))⟩ ?_
  rintro m_A _ ⟨k,hk_A,hp_A,rfl⟩
  have hlbk:=Y9 (bodiesOf rest k)
  have hlbk2:=Yp rest k
  refine Wz [24,21,119] ?_
  refine Xb J (fun h4 => ?_) (fun h4 => ?_)
  ·have h4:=Gqi h4
   have hk9:9*k+9≤rest.length:=by omega
   have hc0:=Yz (rest:=rest) (m:=k) (by omega) (j:=0) (by omega) (9*(k:Int)+9) (9*(k:Int)) J J 0 rfl
   have hc1:=Yz (rest:=rest) (m:=k) (by omega) (j:=1) (by omega) (9*(k:Int)+9) (9*(k:Int)) J J 1 rfl
   have hc2:=Yz (rest:=rest) (m:=k) (by omega) (j:=2) (by omega) (9*(k:Int)+9) (9*(k:Int)) J J 2 rfl
   have hc3:=Yz (rest:=rest) (m:=k) (by omega) (j:=3) (by omega) (9*(k:Int)+9) (9*(k:Int)) J J 3 rfl
   have hc4:=Yz (rest:=rest) (m:=k) (by omega) (j:=4) (by omega) (9*(k:Int)+9) (9*(k:Int)) J J 4 rfl
   have hc5:=Yz (rest:=rest) (m:=k) (by omega) (j:=5) (by omega) (9*(k:Int)+9) (9*(k:Int)) J J 5 rfl
   have hc6:=Yz (rest:=rest) (m:=k) (by omega) (j:=6) (by omega) (9*(k:Int)+9) (9*(k:Int)) J J 6 rfl
   have hc7:=Yz (rest:=rest) (m:=k) (by omega) (j:=7) (by omega) (9*(k:Int)+9) (9*(k:Int)) J J 7 rfl
   have hc8:=Yz (rest:=rest) (m:=k) (by omega) (j:=8) (by omega) (9*(k:Int)+9) (9*(k:Int)) J J 8 rfl
   have hlbk3:(els (bodiesOf rest k)).length=k:=by omega
   have hlt:(9*(k:Int)+9≤(els rest).length):=by omega
   have hk24:k≤24:=by omega
   have hknb:k<nb:=by omega
   clear hwg hwo hform hre hcl hdl h3 h2 hin2 hin hbt hl264 hl21 hl22 ha0 ha1 ha2 h hu1 hu2 hu3 hu4 hll hui hrl hrl2 hn hpl hlbk hlbk2 hp_A hk9 h4
   refine Wz [123,46] ?_;refine zx (q_part J J J J J J (by omega)) J ?_;refine Wz [11] ?_;refine Xh [[],[0],[],[2],[2,3],[],[5],[5,6],[],[8],[8,9],[],[11],[11,12],[],[14],[14,15],[],[17],[17,18],[],[20],[20,21],[],[23],[23,24],[],[26],[26,27],[2,3,4,5,6,7,8,9,10,11,12,13,14,15,16,17,18,19,20,21,22,23,24,25,26,27,28],[2,3,4,5,6,7,8,9,10,11,12,13,14,15,16,17,18,19,20,21,22,23,24,25,26,27,28,29],(u9 31),(u9 32),(u9 33)] [[],[89],[],[91],[91,92],[],[94],[94,95],[],[97],[97,98],[],[100],[100,101],[],[103],[103,104],[],[106],[106,107],[],[109],[109,110],[],[112],[112,113],[],[115],[115,116],[91,92,93,94,95,96,97,98,99,100,101,102,103,104,105,106,107,108,109,110,111,112,113,114,115,116,117],[91,92,93,94,95,96,97,98,99,100,101,102,103,104,105,106,107,108,109,110,111,112,113,114,115,116,117,118],[89,90,91,92,93,94,95,96,97,98,99,100,101,102,103,104,105,106,107,108,109,110,111,112,113,114,115,116,117,118,119],[89,90,91,92,93,94,95,96,97,98,99,100,101,102,103,104,105,106,107,108,109,110,111,112,113,114,115,116,117,118,119,120],[89,90,91,92,93,94,95,96,97,98,99,100,101,102,103,104,105,106,107,108,109,110,111,112,113,114,115,116,117,118,119,120,121]] [[91,92,93,94,95,96,97,98,99,100,101,102,103,104,105,106,107,108,109,110,111,112,113,114,115,116,117,118,119],[91,92,93,94,95,96,97,98,99,100,101,102,103,104,105,106,107,108,109,110,111,112,113,114,115,116,117,118,119],[89,90,94,95,96,97,98,99,100,101,102,103,104,105,106,107,108,109,110,111,112,113,114,115,116,117],[89,90,94,95,96,97,98,99,100,101,102,103,104,105,106,107,108,109,110,111,112,113,114,115,116,117],[89,90,94,95,96,97,98,99,100,101,102,103,104,105,106,107,108,109,110,111,112,113,114,115,116,117],[89,90,91,92,93,97,98,99,100,101,102,103,104,105,106,107,108,109,110,111,112,113,114,115,116,117],[89,90,91,92,93,97,98,99,100,101,102,103,104,105,106,107,108,109,110,111,112,113,114,115,116,117],[89,90,91,92,93,97,98,99,100,101,102,103,104,105,106,107,108,109,110,111,112,113,114,115,116,117],[89,90,91,92,93,94,95,96,100,101,102,103,104,105,106,107,108,109,110,111,112,113,114,115,116,117],[89,90,91,92,93,94,95,96,100,101,102,103,104,105,106,107,108,109,110,111,112,113,114,115,116,117],[89,90,91,92,93,94,95,96,100,101,102,103,104,105,106,107,108,109,110,111,112,113,114,115,116,117],[89,90,91,92,93,94,95,96,97,98,99,103,104,105,106,107,108,109,110,111,112,113,114,115,116,117],[89,90,91,92,93,94,95,96,97,98,99,103,104,105,106,107,108,109,110,111,112,113,114,115,116,117],[89,90,91,92,93,94,95,96,97,98,99,103,104,105,106,107,108,109,110,111,112,113,114,115,116,117],[89,90,91,92,93,94,95,96,97,98,99,100,101,102,106,107,108,109,110,111,112,113,114,115,116,117],[89,90,91,92,93,94,95,96,97,98,99,100,101,102,106,107,108,109,110,111,112,113,114,115,116,117],[89,90,91,92,93,94,95,96,97,98,99,100,101,102,106,107,108,109,110,111,112,113,114,115,116,117],[89,90,91,92,93,94,95,96,97,98,99,100,101,102,103,104,105,109,110,111,112,113,114,115,116,117],[89,90,91,92,93,94,95,96,97,98,99,100,101,102,103,104,105,109,110,111,112,113,114,115,116,117],[89,90,91,92,93,94,95,96,97,98,99,100,101,102,103,104,105,109,110,111,112,113,114,115,116,117],[89,90,91,92,93,94,95,96,97,98,99,100,101,102,103,104,105,106,107,108,112,113,114,115,116,117],[89,90,91,92,93,94,95,96,97,98,99,100,101,102,103,104,105,106,107,108,112,113,114,115,116,117],[89,90,91,92,93,94,95,96,97,98,99,100,101,102,103,104,105,106,107,108,112,113,114,115,116,117],[89,90,91,92,93,94,95,96,97,98,99,100,101,102,103,104,105,106,107,108,109,110,111,115,116,117],[89,90,91,92,93,94,95,96,97,98,99,100,101,102,103,104,105,106,107,108,109,110,111,115,116,117],[89,90,91,92,93,94,95,96,97,98,99,100,101,102,103,104,105,106,107,108,109,110,111,115,116,117],[89,90,91,92,93,94,95,96,97,98,99,100,101,102,103,104,105,106,107,108,109,110,111,112,113,114],[89,90,91,92,93,94,95,96,97,98,99,100,101,102,103,104,105,106,107,108,109,110,111,112,113,114],[89,90,91,92,93,94,95,96,97,98,99,100,101,102,103,104,105,106,107,108,109,110,111,112,113,114],[89,90],[89,90],[],[],[]] J ?_;refine Wz [66,4,121,4,121,4,121,4,121,4,121,4,121,4,121,4,121,4,121] ?_;refine DR.s (x := .o (.ag [jv ((rest.drop (9*k)).getD 0 0),jv ((rest.drop (9*k)).getD 1 0),jv ((rest.drop (9*k)).getD 2 0),jv ((rest.drop (9*k)).getD 3 0),jv ((rest.drop (9*k)).getD 4 0),jv ((rest.drop (9*k)).getD 5 0),jv ((rest.drop (9*k)).getD 6 0),jv ((rest.drop (9*k)).getD 7 0),jv ((rest.drop (9*k)).getD 8 0)])) (Ke J J J J (by kernel_rfl)) J J ?_;refine Wz [181,17] ?_;refine AL.weak (st':=(⟨_,[(4,.o (.c (.ptr 1 0))),(10,.o (.c (.ptr 4 0))),(11,.o (.c (.rd [2] (.sl 1 (els rest))))),(12,I (9*(k:Int))),(90,.o (.c (.ref 6))),(119,.o (.c (.sb 7 1 9)))],[.box ((Enc.e lv).map (V1.rd [])),.box [nilV,jv 0,jv 0,nilV,nilV],.row 1 (els l),.row 1 (els lv.Rows),.box [.ref 3,jv (l.getD 0 0),jv (l.getD 1 0),.ref 5,.ref 6],.row 1 (els ((l.drop 3).take p)),.row 9 (els (bodiesOf rest k)),.box [jv ((rest.drop (9*k)).getD 0 0),jv ((rest.drop (9*k)).getD 1 0),jv ((rest.drop (9*k)).getD 2 0),jv ((rest.drop (9*k)).getD 3 0),jv ((rest.drop (9*k)).getD 4 0),jv ((rest.drop (9*k)).getD 5 0),jv ((rest.drop (9*k)).getD 6 0),jv ((rest.drop (9*k)).getD 7 0),jv ((rest.drop (9*k)).getD 8 0)]]⟩:St)) (Gs [0,1,2,3,4,5,6,7]) ?_;refine Wz [108,103,74,43] ?_
   exact⟨nb-(k+1),by omega,(fun k:Nat=>(⟨_,[(4,.o (.c (.ptr 1 0))),(10,.o (.c (.ptr 4 0))),(11,.o (.c (.rd [2] (.sl 1 (els rest))))),(12,I (9*(k:Int)))],[.box ((Enc.e lv).map (V1.rd [])),.box [nilV,jv 0,jv 0,nilV,nilV],.row 1 (els l),.row 1 (els lv.Rows),.box [.ref 3,jv (l.getD 0 0),jv (l.getD 1 0),.ref 5,.ref 6],.row 1 (els ((l.drop 3).take p)),.row 9 (els (bodiesOf rest k))]⟩:St)) (k+1),⟨k+1,by omega,trivial,J⟩,Yg [0,1,2,3,4,5,6] (by decide) J (row7 (by rw[bodiesOf_snoc,Y6]; rfl)) (.c J (.c J (.c J (.cons (Xz (by omega)) (.nil)))))⟩
  ·have h4:=Gqj h4
   have hkn:k=nb:=by omega
   subst hkn
   have hwk:=I_WorldOk ⟨lv,l.getD 0 0,l.getD 1 0,(l.drop 3).take p,bodiesOf rest k⟩ hwg
   cases ho:worldOk ⟨lv,l.getD 0 0,l.getD 1 0,(l.drop 3).take p,bodiesOf rest k⟩ with
   |false =>
    rw[ho] at hwk
    rw[K4 hu (fun hh=>by have h9:=hh.2.2; rw[hwo,ho] at h9; cases h9)]
    refine Wz [40,102] ?_;refine zx (Qj J J (hwk) J) J ?_;refine Wz [16,93] ?_
    exact G4 J J (Ye [1,1,9] [7,8,9] J J (by decide) J J J)
   |true =>
    rw[ho] at hwk
    rw[K6 hu ⟨by omega,hform,by rw[hwo]; exact ho⟩,hwo]
    refine Wz [40,102] ?_;refine zx (Qj J J (hwk) J) J ?_;refine Wz [16,38,6,115] ?_
    exact G4 J J (Gr [3,5,6] J J J)
end
section
open Go.RowKit

theorem row6 {a b c d e:Ob} {k:Nat} {x y:List (List T)} (h:x=y) : [a,b,c,d,e,Ob.row k x] = [a,b,c,d,e,Ob.row k y]:=by rw[h]
theorem plain_dt (l:List Int) (a b:Nat):plainT (((els l).take a).drop b):=fun e he=>Za l e (Gxc (Gxw he))
theorem k_dt (l:List Int) (a b:Nat):∀ e∈((els l).take a).drop b,e.length=1:=fun e he=>els_k l e (Gxc (Gxw he))
theorem world_bytes_eq {lv:TLevel} {s:ByteArray} {l:List Int} {pos:Nat} (hu:unpackInts s 0=some (l,pos)) (hp:pos=s.size) (hf:formOk l):worldBytes (worldOf lv l)=s↔worldOk (worldOf lv l)=true:=by
 have hcn:=unpackInts_canon hu
 have hb:=bytesL_all s pos (by omega)
 have hs:packInts l=s:=by rw[hcn]; exact hb.2 hp
 cases ho:worldOk (worldOf lv l) with
 |true =>
  rw[show worldBytes (worldOf lv l)=packInts (worldInts (worldOf lv l)) by rw[worldBytes,ho]; exact if_pos rfl,worldOf_ints hf]
  exact⟨fun _=>rfl,fun _=>hs⟩
 |false =>
  rw[show worldBytes (worldOf lv l)=⟨#[]⟩ by rw[worldBytes,ho]; exact if_neg (by decide)]
  refine⟨fun h => ?_,fun h=>by cases h⟩
  have h1:=(Vj hu).2.1
  rw[hp,←h] at h1
  exact absurd h1 (by decide)
theorem body_cells {l rest:List Int} {c q:Nat} (hr:rest=l.drop c):Enc.e (bodyOf (rest.drop (9*q))) = [.v (.int .i64 (l.getD (c+9*q+0) 0)),.v (.int .i64 (l.getD (c+9*q+1) 0)),.v (.int .i64 (l.getD (c+9*q+2) 0)),.v (.int .i64 (l.getD (c+9*q+3) 0)),.v (.int .i64 (l.getD (c+9*q+4) 0)),.v (.int .i64 (l.getD (c+9*q+5) 0)),.v (.int .i64 (l.getD (c+9*q+6) 0)),.v (.int .i64 (l.getD (c+9*q+7) 0)),.v (.int .i64 (l.getD (c+9*q+8) 0))]:=by
 have h:∀ j,(rest.drop (9*q)).getD j 0=l.getD (c+9*q+j) 0:=fun j=>by
  rw[hr,Gxn,Gqc,Gqc,Gq5]
 show [T.v (.int .i64 ((rest.drop (9*q)).getD 0 0)),.v (.int .i64 ((rest.drop (9*q)).getD 1 0)),.v (.int .i64 ((rest.drop (9*q)).getD 2 0)),.v (.int .i64 ((rest.drop (9*q)).getD 3 0)),.v (.int .i64 ((rest.drop (9*q)).getD 4 0)),.v (.int .i64 ((rest.drop (9*q)).getD 5 0)),.v (.int .i64 ((rest.drop (9*q)).getD 6 0)),.v (.int .i64 ((rest.drop (9*q)).getD 7 0)),.v (.int .i64 ((rest.drop (9*q)).getD 8 0))]=_
 simp only[h]
theorem S_ReadWorld (lv:TLevel) (s:ByteArray) (hg:Enc.gd lv) (hL:lv.Rows.length≤1048576) (hs:s.size≤1099511627776):Con Tryz.prog 247 [] [ag lv,astr s] (ownO (Enc.e (rwW (readWorld lv s)))) (.tu [.ag (ownV 0 (Enc.e (rwW (readWorld lv s)))),.c (bv (rwB (readWorld lv s)))]):=by
 have hui:=S_UnpackInts s 0 hs ⟨by omega,by omega⟩
 cases hu:unpackInts s 0 with
 |none =>
  rw[hu] at hui
  rw[K5 hu]
  refine Con.of Tryz.func247 J Tryz.ntmps247 J (fun E => ?_)
  refine Wz [51,32] ?_;refine V6 (Kh J J (hui) J J J) J ?_;refine Wz [78,20,9,91,56,20,56,20,135,56,20,165,56,93] ?_
  exact G4 J J (Ye [1,1,9] [3,4,5] J J (by decide) J J J)
 | some r =>
  obtain⟨l,pos⟩:=r
  rw[hu] at hui
  obtain⟨_,hu1,hu2,hu3,hu4⟩:=Vj hu
  have hll:=Y9 l
  by_cases c1:(pos:Int)≠s.size
  ·have hb1:decide ((pos:Int)≠s.size)=true:=Gqb c1
   rw[K4 hu (fun hh=>by have:=hh.1; omega)]
   refine Con.of Tryz.func247 J Tryz.ntmps247 J (fun E => ?_)
   refine Wz [51,32] ?_;refine V6 (Kh J J (hui) J J J) J ?_;refine Wz [78,69,106,116,91,56,20,56,20,135,56,20,165,56,93] ?_
   exact G4 J J (Ye [1,1,9] [3,4,5] J J (by decide) J J J)
  have hb1:decide ((pos:Int)≠s.size)=false:=Gqa c1
  by_cases c2:((els l).length:Int)<3
  ·have hb2:decide (((els l).length:Int)<3)=true:=Gqb c2
   rw[K4 hu (fun hh=>by have:=hh.2.1.1; omega)]
   refine Con.of Tryz.func247 J Tryz.ntmps247 J (fun E => ?_)
   refine Wz [51,32] ?_;refine V6 (Kh J J (hui) J J J) J ?_;refine Wz [78,69,106,116,8,58,5,7,20,56,20,135,56,20,165,56,93] ?_
   exact G4 J J (Ye [1,1,9] [3,4,5] J J (by decide) J J J)
  have hb2:decide (((els l).length:Int)<3)=false:=Gqa c2
  have ha0:=Y8 (l:=l) (j:=0) (by omega) 0 rfl
  have ha1:=Y8 (l:=l) (j:=1) (by omega) 1 rfl
  have ha2:=Y8 (l:=l) (j:=2) (by omega) 2 rfl
  obtain⟨l2,hl2⟩:∃ l2,l.getD 2 0=l2:=⟨_,rfl⟩
  rw[hl2] at ha2
  have hbt:=S_in l2 1 4
  by_cases hin:inR l2 1 4=true
  case neg =>
   have hf:inR l2 1 4=false:=by simpa using hin
   rw[hf] at hbt
   rw[K4 hu (fun hh=>by have:=hh.2.1.2.1; rw[hl2,←Zn] at this; exact hin this)]
   refine Con.of Tryz.func247 J Tryz.ntmps247 J (fun E => ?_)
   refine Wz [51,32] ?_;refine V6 (Kh J J (hui) J J J) J ?_;refine Wz [78,69,106,116,8,58,5,7,8,41,3,70,3] ?_;refine zx (Qj J J (hbt) J) J ?_;refine Wz [83,20,135,56,20,165,56,93] ?_
   exact G4 J J (Ye [1,1,9] [3,4,5] J J (by decide) J J J)
  rw[hin] at hbt
  have hin2:=Zn.1 hin
  obtain⟨p,rfl⟩:∃ p:Nat,l2=p:=⟨l2.toNat,by omega⟩
  by_cases c4:((els l).length:Int)<3+(p:Int)
  ·have hb4:decide (((els l).length:Int)<3+(p:Int))=true:=Gqb c4
   rw[K4 hu (fun hh=>by have:=hh.2.1.2.2.1; omega)]
   refine Con.of Tryz.func247 J Tryz.ntmps247 J (fun E => ?_)
   refine Wz [51,32] ?_;refine V6 (Kh J J (hui) J J J) J ?_;refine Wz [78,69,106,116,8,58,5,7,8,41,3,70,3] ?_;refine zx (Qj J J (hbt) J) J ?_;refine Wz [83,8,58,18,41,3,70,3,35,3,5,7,20,165,56,93] ?_
   exact G4 J J (Ye [1,1,9] [3,4,5] J J (by decide) J J J)
  have hb4:decide (((els l).length:Int)<3+(p:Int))=false:=Gqa c4
  by_cases c5:(((els l).length:Int)-3-(p:Int))%9≠0
  ·have hb5:decide ((((els l).length:Int)-3-(p:Int))%9≠0)=true:=Gqb c5
   rw[K4 hu (fun hh=>by have:=hh.2.1.2.2.2; rw[hl2] at this; omega)]
   refine Con.of Tryz.func247 J Tryz.ntmps247 J (fun E => ?_)
   refine Wz [51,32] ?_;refine V6 (Kh J J (hui) J J J) J ?_;refine Wz [78,69,106,116,8,58,5,7,8,41,3,70,3] ?_;refine zx (Qj J J (hbt) J) J ?_;refine Wz [83,8,58,18,41,3,70,3,35,3,5,7,8,58,87,18,41,3,70,3,87,111,3,116,93] ?_
   exact G4 J J (Ye [1,1,9] [3,4,5] J J (by decide) J J J)
  have hb5:decide ((((els l).length:Int)-3-(p:Int))%9≠0)=false:=Gqa c5
  obtain⟨rest,hrest⟩:∃ rest,rest=l.drop (3+p):=⟨_,rfl⟩
  have hrl:rest.length=l.length-(3+p):=by rw[hrest]; simp
  obtain⟨nb,hn⟩:∃ nb,rest.length=9*nb:=⟨rest.length/9,by omega⟩
  have hform:formOk l:=⟨by omega,by rw[hl2]; exact hin2,by rw[hl2]; omega,by rw[hl2]; omega⟩
  have hwo:worldOf lv l=⟨lv,l.getD 0 0,l.getD 1 0,(l.drop 3).take p,bodiesOf rest nb⟩:=by
   rw[worldOf,hl2,Int.toNat_natCast,←hrest,show (l.length-3-p)/9=nb by omega]
  have hwg:=worldOf_gd (lv:=lv) hg hu4 (by omega)
  rw[hwo] at hwg
  have hwb:=world_bytes_eq (lv:=lv) hu (by omega) hform
  rw[hwo] at hwb
  have hpl:((((els l).take ((3:Int)+(p:Int)).toNat).drop (3:Int).toNat)).length=p:=by
   rw[Gq0,Gqx,hll]; omega
  have hsc:els ((l.drop 3).take p)=(((els l).take ((3:Int)+(p:Int)).toNat).drop (3:Int).toNat):=by
   rw[show ((3:Int)+(p:Int)).toNat=3+p by omega,show (3:Int).toNat=3 from rfl,List.drop_take,←els_dropE,←Zc,show 3+p-3=p by omega]
  refine Con.of Tryz.func247 J Tryz.ntmps247 J (fun E => ?_)
  refine Wz [51,32] ?_;refine V6 (Kh J J (hui) J J J) J ?_;refine Wz [78,69,106,116,8,58,5,7,8,41,3,70,3] ?_;refine zx (Qj J J (hbt) J) J ?_;refine Wz [83,8,58,18,41,3,70,3,35,3,5,7,8,58,87,18,41,3,70,3,87,111,3,116,76,41,70,136,12] ?_;refine Xh [[],[0],[],[2],[2,3],[],[5],[5,6],[],[],[],[9,10],[0,1,8,9,10,11],(u9 13),[],(u9 15)] [[],[63],[],[65],[65,66],[],[68],[68,69],[],[],[],[72,73],[63,64,71,72,73,74],[63,64,65,66,67,68,69,70,71,72,73,74,75],[],[10,63,64,65,66,67,68,69,70,71,72,73,74,75,76]] [[10,65,66,67,68,69,70,71,72,73,74],[10,65,66,67,68,69,70,71,72,73,74],[10,63,64,68,69,70,71,72,73,74,75],[10,63,64,68,69,70,71,72,73,74,75],[10,63,64,68,69,70,71,72,73,74,75],[10,63,64,65,66,67,71,72,73,74,75],[10,63,64,65,66,67,71,72,73,74,75],[10,63,64,65,66,67,71,72,73,74,75],[10,63,64,65,66,67,68,69,70,72,73,74],[10,63,64,65,66,67,68,69,70,71,73],[10,63,64,65,66,67,68,69,70,71,72],[10,63,64,65,66,67,68,69,70,71],[10,65,66,67,68,69,70],[10],[63,64,65,66,67,68,69,70,71,72,73,74,75,76],[]] J (Vx (Qu J J J J J J) J ?_);refine Vx (Kh J J (Yb lv hg hL) J J J) J ?_;refine Wz [4,79,109,4,79,109,263,29] ?_;refine Vx (q_partr J J J J J J J (by omega)) J ?_;refine Vx (q_appz J J J J J J (plain_dt _ _ _) (k_dt _ _ _) (by omega) (by omega) (by omega)) J ?_;refine Wz [260,184,17] ?_;refine AL.weak (st':=(⟨_,[(1,S s),(4,.o (.c (.ptr 1 0))),(6,.o (.c (.ref 2))),(9,I (3+(p:Int))),(10,.o (.c (.ptr 4 0))),(76,.o (.ag [.ref 3,jv (l.getD 0 0),jv (l.getD 1 0),.ref 5,nilV]))],[.box ((Enc.e lv).map (V1.rd [])),.box [nilV,jv 0,jv 0,nilV,nilV],.row 1 (els l),.row 1 (els lv.Rows),.box [nilV,jv 0,jv 0,nilV,nilV],.row 1 (els ((l.drop 3).take p))]⟩:St)) (Yg [0,1,2,3,6,5] (by decide) J (row6 hsc) (.c J (.c J (.c J (.c J (.c J (.c J (.nil)))))))) ?_;refine AL.weak (Wk.refl _) ?_;refine Wz [138,25,11,33] ?_
  refine AWP.pre ?_ (Wk.nilbox (p:=4) (i:=4) 9 J J)
  skip
  refine Xi (fun m st=>∃ q:Nat,q+m=nb∧(True)∧st=(⟨_,[(1,S s),(4,.o (.c (.ptr 1 0))),(6,.o (.c (.ref 2))),(10,.o (.c (.ptr 4 0))),(11,I ((3+p+9*q:Nat):Int))],[.box ((Enc.e lv).map (V1.rd [])),.box [nilV,jv 0,jv 0,nilV,nilV],.row 1 (els l),.row 1 (els lv.Rows),.box [.ref 3,jv (l.getD 0 0),jv (l.getD 1 0),.ref 5,.ref 6],.row 1 (els ((l.drop 3).take p)),.row 9 (els (bodiesOf rest q))]⟩:St)) (nb) ⟨(fun q:Nat=>(⟨_,[(1,S s),(4,.o (.c (.ptr 1 0))),(6,.o (.c (.ref 2))),(10,.o (.c (.ptr 4 0))),(11,I ((3+p+9*q:Nat):Int))],[.box ((Enc.e lv).map (V1.rd [])),.box [nilV,jv 0,jv 0,nilV,nilV],.row 1 (els l),.row 1 (els lv.Rows),.box [.ref 3,jv (l.getD 0 0),jv (l.getD 1 0),.ref 5,.ref 6],.row 1 (els ((l.drop 3).take p)),.row 9 (els (bodiesOf rest q))]⟩:St)) 0,⟨0,by omega,trivial,J⟩,Gp [0,1,2,3,4,5,6] J (.c J (.c J (.c J (.c J (.cons (Xz (by omega)) (.nil))))))⟩ ?_
  rintro m_A _ ⟨q,hk_A,hp_A,rfl⟩
  have hlbk:=Y9 (bodiesOf rest q)
  have hlbk2:=Yp rest q
  by_cases h4:((3+p+9*q:Nat):Int)<(els l).length
  ·have hb6:decide (((3+p+9*q:Nat):Int)<(els l).length)=true:=Gqb h4
   have hc0:=Y8 (l:=l) (j:=3+p+9*q+0) (by omega) (((3+p+9*q:Nat):Int)) (by omega)
   have hc1:=Y8 (l:=l) (j:=3+p+9*q+1) (by omega) (((3+p+9*q:Nat):Int)+1) (by omega)
   have hc2:=Y8 (l:=l) (j:=3+p+9*q+2) (by omega) (((3+p+9*q:Nat):Int)+2) (by omega)
   have hc3:=Y8 (l:=l) (j:=3+p+9*q+3) (by omega) (((3+p+9*q:Nat):Int)+3) (by omega)
   have hc4:=Y8 (l:=l) (j:=3+p+9*q+4) (by omega) (((3+p+9*q:Nat):Int)+4) (by omega)
   have hc5:=Y8 (l:=l) (j:=3+p+9*q+5) (by omega) (((3+p+9*q:Nat):Int)+5) (by omega)
   have hc6:=Y8 (l:=l) (j:=3+p+9*q+6) (by omega) (((3+p+9*q:Nat):Int)+6) (by omega)
   have hc7:=Y8 (l:=l) (j:=3+p+9*q+7) (by omega) (((3+p+9*q:Nat):Int)+7) (by omega)
   have hc8:=Y8 (l:=l) (j:=3+p+9*q+8) (by omega) (((3+p+9*q:Nat):Int)+8) (by omega)
   have hbc:=body_cells (q:=q) hrest
   have hq24:(els (bodiesOf rest q)).length≤1099511627776:=by omega
   have hlt:((3+p+9*q:Nat):Int)+9≤(els l).length:=by omega
   have hidx:(3+p+9*q:Nat)≤1099511627776:=by omega
   have hqnb:q<nb:=by omega
   clear hwg hwo hwb hform hsc hbt hin2 hin ha0 ha1 ha2 hl2 hb1 hb2 hb4 hb5 c1 c2 c4 c5 hu1 hu2 hu3 hu4 hui hpl hrl hn hll hlbk hlbk2 hp_A
   refine Wz [24,98,57,26] ?_;refine Xh [[],[0],[],[],[2,3],[2,3,4],[],[],[7],[6,7,8],[6,7,8,9],[],[],[12],[11,12,13],[11,12,13,14],[],[],[17],[16,17,18],[16,17,18,19],[],[],[22],[21,22,23],[21,22,23,24],[],[],[27],[26,27,28],[26,27,28,29],[],[],[32],[31,32,33],[31,32,33,34],[],[],[37],[36,37,38],[36,37,38,39],[],[],[42],[41,42,43],[41,42,43,44],[2,3,4,5,6,7,8,9,10,11,12,13,14,15,16,17,18,19,20,21,22,23,24,25,26,27,28,29,30,31,32,33,34,35,36,37,38,39,40,41,42,43,44,45],[2,3,4,5,6,7,8,9,10,11,12,13,14,15,16,17,18,19,20,21,22,23,24,25,26,27,28,29,30,31,32,33,34,35,36,37,38,39,40,41,42,43,44,45,46],(u9 48),(u9 49),(u9 50)] [[],[84],[],[],[86,87],[86,87,88],[],[],[91],[90,91,92],[90,91,92,93],[],[],[96],[95,96,97],[95,96,97,98],[],[],[101],[100,101,102],[100,101,102,103],[],[],[106],[105,106,107],[105,106,107,108],[],[],[111],[110,111,112],[110,111,112,113],[],[],[116],[115,116,117],[115,116,117,118],[],[],[121],[120,121,122],[120,121,122,123],[],[],[126],[125,126,127],[125,126,127,128],[86,87,88,89,90,91,92,93,94,95,96,97,98,99,100,101,102,103,104,105,106,107,108,109,110,111,112,113,114,115,116,117,118,119,120,121,122,123,124,125,126,127,128,129],[86,87,88,89,90,91,92,93,94,95,96,97,98,99,100,101,102,103,104,105,106,107,108,109,110,111,112,113,114,115,116,117,118,119,120,121,122,123,124,125,126,127,128,129,130],[84,85,86,87,88,89,90,91,92,93,94,95,96,97,98,99,100,101,102,103,104,105,106,107,108,109,110,111,112,113,114,115,116,117,118,119,120,121,122,123,124,125,126,127,128,129,130,131],[84,85,86,87,88,89,90,91,92,93,94,95,96,97,98,99,100,101,102,103,104,105,106,107,108,109,110,111,112,113,114,115,116,117,118,119,120,121,122,123,124,125,126,127,128,129,130,131,132],[84,85,86,87,88,89,90,91,92,93,94,95,96,97,98,99,100,101,102,103,104,105,106,107,108,109,110,111,112,113,114,115,116,117,118,119,120,121,122,123,124,125,126,127,128,129,130,131,132,133]] [[86,87,88,89,90,91,92,93,94,95,96,97,98,99,100,101,102,103,104,105,106,107,108,109,110,111,112,113,114,115,116,117,118,119,120,121,122,123,124,125,126,127,128,129,130,131],[86,87,88,89,90,91,92,93,94,95,96,97,98,99,100,101,102,103,104,105,106,107,108,109,110,111,112,113,114,115,116,117,118,119,120,121,122,123,124,125,126,127,128,129,130,131],[84,85,87,90,91,92,93,94,95,96,97,98,99,100,101,102,103,104,105,106,107,108,109,110,111,112,113,114,115,116,117,118,119,120,121,122,123,124,125,126,127,128,129],[84,85,86,90,91,92,93,94,95,96,97,98,99,100,101,102,103,104,105,106,107,108,109,110,111,112,113,114,115,116,117,118,119,120,121,122,123,124,125,126,127,128,129],[84,85,90,91,92,93,94,95,96,97,98,99,100,101,102,103,104,105,106,107,108,109,110,111,112,113,114,115,116,117,118,119,120,121,122,123,124,125,126,127,128,129],[84,85,90,91,92,93,94,95,96,97,98,99,100,101,102,103,104,105,106,107,108,109,110,111,112,113,114,115,116,117,118,119,120,121,122,123,124,125,126,127,128,129],[84,85,86,87,88,89,91,92,95,96,97,98,99,100,101,102,103,104,105,106,107,108,109,110,111,112,113,114,115,116,117,118,119,120,121,122,123,124,125,126,127,128,129],[84,85,86,87,88,89,90,95,96,97,98,99,100,101,102,103,104,105,106,107,108,109,110,111,112,113,114,115,116,117,118,119,120,121,122,123,124,125,126,127,128,129],[84,85,86,87,88,89,90,95,96,97,98,99,100,101,102,103,104,105,106,107,108,109,110,111,112,113,114,115,116,117,118,119,120,121,122,123,124,125,126,127,128,129],[84,85,86,87,88,89,95,96,97,98,99,100,101,102,103,104,105,106,107,108,109,110,111,112,113,114,115,116,117,118,119,120,121,122,123,124,125,126,127,128,129],[84,85,86,87,88,89,95,96,97,98,99,100,101,102,103,104,105,106,107,108,109,110,111,112,113,114,115,116,117,118,119,120,121,122,123,124,125,126,127,128,129],[84,85,86,87,88,89,90,91,92,93,94,96,97,100,101,102,103,104,105,106,107,108,109,110,111,112,113,114,115,116,117,118,119,120,121,122,123,124,125,126,127,128,129],[84,85,86,87,88,89,90,91,92,93,94,95,100,101,102,103,104,105,106,107,108,109,110,111,112,113,114,115,116,117,118,119,120,121,122,123,124,125,126,127,128,129],[84,85,86,87,88,89,90,91,92,93,94,95,100,101,102,103,104,105,106,107,108,109,110,111,112,113,114,115,116,117,118,119,120,121,122,123,124,125,126,127,128,129],[84,85,86,87,88,89,90,91,92,93,94,100,101,102,103,104,105,106,107,108,109,110,111,112,113,114,115,116,117,118,119,120,121,122,123,124,125,126,127,128,129],[84,85,86,87,88,89,90,91,92,93,94,100,101,102,103,104,105,106,107,108,109,110,111,112,113,114,115,116,117,118,119,120,121,122,123,124,125,126,127,128,129],[84,85,86,87,88,89,90,91,92,93,94,95,96,97,98,99,101,102,105,106,107,108,109,110,111,112,113,114,115,116,117,118,119,120,121,122,123,124,125,126,127,128,129],[84,85,86,87,88,89,90,91,92,93,94,95,96,97,98,99,100,105,106,107,108,109,110,111,112,113,114,115,116,117,118,119,120,121,122,123,124,125,126,127,128,129],[84,85,86,87,88,89,90,91,92,93,94,95,96,97,98,99,100,105,106,107,108,109,110,111,112,113,114,115,116,117,118,119,120,121,122,123,124,125,126,127,128,129],[84,85,86,87,88,89,90,91,92,93,94,95,96,97,98,99,105,106,107,108,109,110,111,112,113,114,115,116,117,118,119,120,121,122,123,124,125,126,127,128,129],[84,85,86,87,88,89,90,91,92,93,94,95,96,97,98,99,105,106,107,108,109,110,111,112,113,114,115,116,117,118,119,120,121,122,123,124,125,126,127,128,129],[84,85,86,87,88,89,90,91,92,93,94,95,96,97,98,99,100,101,102,103,104,106,107,110,111,112,113,114,115,116,117,118,119,120,121,122,123,124,125,126,127,128,129],[84,85,86,87,88,89,90,91,92,93,94,95,96,97,98,99,100,101,102,103,104,105,110,111,112,113,114,115,116,117,118,119,120,121,122,123,124,125,126,127,128,129],[84,85,86,87,88,89,90,91,92,93,94,95,96,97,98,99,100,101,102,103,104,105,110,111,112,113,114,115,116,117,118,119,120,121,122,123,124,125,126,127,128,129],[84,85,86,87,88,89,90,91,92,93,94,95,96,97,98,99,100,101,102,103,104,110,111,112,113,114,115,116,117,118,119,120,121,122,123,124,125,126,127,128,129],[84,85,86,87,88,89,90,91,92,93,94,95,96,97,98,99,100,101,102,103,104,110,111,112,113,114,115,116,117,118,119,120,121,122,123,124,125,126,127,128,129],[84,85,86,87,88,89,90,91,92,93,94,95,96,97,98,99,100,101,102,103,104,105,106,107,108,109,111,112,115,116,117,118,119,120,121,122,123,124,125,126,127,128,129],[84,85,86,87,88,89,90,91,92,93,94,95,96,97,98,99,100,101,102,103,104,105,106,107,108,109,110,115,116,117,118,119,120,121,122,123,124,125,126,127,128,129],[84,85,86,87,88,89,90,91,92,93,94,95,96,97,98,99,100,101,102,103,104,105,106,107,108,109,110,115,116,117,118,119,120,121,122,123,124,125,126,127,128,129],[84,85,86,87,88,89,90,91,92,93,94,95,96,97,98,99,100,101,102,103,104,105,106,107,108,109,115,116,117,118,119,120,121,122,123,124,125,126,127,128,129],[84,85,86,87,88,89,90,91,92,93,94,95,96,97,98,99,100,101,102,103,104,105,106,107,108,109,115,116,117,118,119,120,121,122,123,124,125,126,127,128,129],[84,85,86,87,88,89,90,91,92,93,94,95,96,97,98,99,100,101,102,103,104,105,106,107,108,109,110,111,112,113,114,116,117,120,121,122,123,124,125,126,127,128,129],[84,85,86,87,88,89,90,91,92,93,94,95,96,97,98,99,100,101,102,103,104,105,106,107,108,109,110,111,112,113,114,115,120,121,122,123,124,125,126,127,128,129],[84,85,86,87,88,89,90,91,92,93,94,95,96,97,98,99,100,101,102,103,104,105,106,107,108,109,110,111,112,113,114,115,120,121,122,123,124,125,126,127,128,129],[84,85,86,87,88,89,90,91,92,93,94,95,96,97,98,99,100,101,102,103,104,105,106,107,108,109,110,111,112,113,114,120,121,122,123,124,125,126,127,128,129],[84,85,86,87,88,89,90,91,92,93,94,95,96,97,98,99,100,101,102,103,104,105,106,107,108,109,110,111,112,113,114,120,121,122,123,124,125,126,127,128,129],[84,85,86,87,88,89,90,91,92,93,94,95,96,97,98,99,100,101,102,103,104,105,106,107,108,109,110,111,112,113,114,115,116,117,118,119,121,122,125,126,127,128,129],[84,85,86,87,88,89,90,91,92,93,94,95,96,97,98,99,100,101,102,103,104,105,106,107,108,109,110,111,112,113,114,115,116,117,118,119,120,125,126,127,128,129],[84,85,86,87,88,89,90,91,92,93,94,95,96,97,98,99,100,101,102,103,104,105,106,107,108,109,110,111,112,113,114,115,116,117,118,119,120,125,126,127,128,129],[84,85,86,87,88,89,90,91,92,93,94,95,96,97,98,99,100,101,102,103,104,105,106,107,108,109,110,111,112,113,114,115,116,117,118,119,125,126,127,128,129],[84,85,86,87,88,89,90,91,92,93,94,95,96,97,98,99,100,101,102,103,104,105,106,107,108,109,110,111,112,113,114,115,116,117,118,119,125,126,127,128,129],[84,85,86,87,88,89,90,91,92,93,94,95,96,97,98,99,100,101,102,103,104,105,106,107,108,109,110,111,112,113,114,115,116,117,118,119,120,121,122,123,124,126,127],[84,85,86,87,88,89,90,91,92,93,94,95,96,97,98,99,100,101,102,103,104,105,106,107,108,109,110,111,112,113,114,115,116,117,118,119,120,121,122,123,124,125],[84,85,86,87,88,89,90,91,92,93,94,95,96,97,98,99,100,101,102,103,104,105,106,107,108,109,110,111,112,113,114,115,116,117,118,119,120,121,122,123,124,125],[84,85,86,87,88,89,90,91,92,93,94,95,96,97,98,99,100,101,102,103,104,105,106,107,108,109,110,111,112,113,114,115,116,117,118,119,120,121,122,123,124],[84,85,86,87,88,89,90,91,92,93,94,95,96,97,98,99,100,101,102,103,104,105,106,107,108,109,110,111,112,113,114,115,116,117,118,119,120,121,122,123,124],[84,85],[84,85],[],[],[]] J ?_;refine Wz [66,29] ?_;refine Vx (Q3 J J J J J (by omega) (by assumption)) J ?_;refine Wz [109,29,164,79,109,29,164,79,109,29,164,79,109,29,164,79,109,29,164,79,109,29,164,79,109,29,164,79,109,29,164] ?_;refine Vx (Q3 J J J J J (by omega) (by assumption)) J (Vx (Q7 J J J J (by assumption) J) J ?_);refine DR.s (x := .o (.ag [jv (l.getD (3+p+9*q+0) 0),jv (l.getD (3+p+9*q+1) 0),jv (l.getD (3+p+9*q+2) 0),jv (l.getD (3+p+9*q+3) 0),jv (l.getD (3+p+9*q+4) 0),jv (l.getD (3+p+9*q+5) 0),jv (l.getD (3+p+9*q+6) 0),jv (l.getD (3+p+9*q+7) 0),jv (l.getD (3+p+9*q+8) 0)])) (Ke J J J J (by kernel_rfl)) J J ?_;refine Wz [181,17] ?_;refine AL.weak (st':=(⟨_,[(1,S s),(4,.o (.c (.ptr 1 0))),(6,.o (.c (.ref 2))),(10,.o (.c (.ptr 4 0))),(11,I ((3+p+9*q:Nat):Int)),(85,.o (.c (.ref 6))),(131,.o (.c (.sb 7 1 9)))],[.box ((Enc.e lv).map (V1.rd [])),.box [nilV,jv 0,jv 0,nilV,nilV],.row 1 (els l),.row 1 (els lv.Rows),.box [.ref 3,jv (l.getD 0 0),jv (l.getD 1 0),.ref 5,.ref 6],.row 1 (els ((l.drop 3).take p)),.row 9 (els (bodiesOf rest q)),.box [jv (l.getD (3+p+9*q+0) 0),jv (l.getD (3+p+9*q+1) 0),jv (l.getD (3+p+9*q+2) 0),jv (l.getD (3+p+9*q+3) 0),jv (l.getD (3+p+9*q+4) 0),jv (l.getD (3+p+9*q+5) 0),jv (l.getD (3+p+9*q+6) 0),jv (l.getD (3+p+9*q+7) 0),jv (l.getD (3+p+9*q+8) 0)]]⟩:St)) (Gs [0,1,2,3,4,5,6,7]) ?_;refine Wz [108,103,74,43] ?_
   exact⟨nb-(q+1),by omega,(fun q:Nat=>(⟨_,[(1,S s),(4,.o (.c (.ptr 1 0))),(6,.o (.c (.ref 2))),(10,.o (.c (.ptr 4 0))),(11,I ((3+p+9*q:Nat):Int))],[.box ((Enc.e lv).map (V1.rd [])),.box [nilV,jv 0,jv 0,nilV,nilV],.row 1 (els l),.row 1 (els lv.Rows),.box [.ref 3,jv (l.getD 0 0),jv (l.getD 1 0),.ref 5,.ref 6],.row 1 (els ((l.drop 3).take p)),.row 9 (els (bodiesOf rest q))]⟩:St)) (q+1),⟨q+1,by omega,trivial,J⟩,Yg [0,1,2,3,4,5,6] (by decide) J (row7 (by rw[bodiesOf_snoc,Y6,show els [bodyOf (rest.drop (9*q))] = [Enc.e (bodyOf (rest.drop (9*q)))] from J,hbc]; rfl)) (.c J (.c J (.c J (.c J (.cons (Xz (by omega)) (.nil))))))⟩
  ·have hb6:decide (((3+p+9*q:Nat):Int)<(els l).length)=false:=Gqa h4
   have hqn:q=nb:=by omega
   subst hqn
   have hwk:=Ya ⟨lv,l.getD 0 0,l.getD 1 0,(l.drop 3).take p,bodiesOf rest q⟩ hwg
   cases ho:worldOk ⟨lv,l.getD 0 0,l.getD 1 0,(l.drop 3).take p,bodiesOf rest q⟩ with
   |false =>
    have hne:decide (worldBytes ⟨lv,l.getD 0 0,l.getD 1 0,(l.drop 3).take p,bodiesOf rest q⟩≠s)=true:=Gqb fun h=>by rw[hwb,ho] at h; cases h
    rw[K4 hu (fun hh=>by have h9:=hh.2.2; rw[hwo,ho] at h9; cases h9)]
    refine Wz [24,98,5,61,102] ?_;refine zx (Qj J J (hwk) J) J ?_;refine Wz [0,201,93] ?_
    exact G4 J J (Ye [1,1,9] [7,8,9] J J (by decide) J J J)
   |true =>
    have hne:decide (worldBytes ⟨lv,l.getD 0 0,l.getD 1 0,(l.drop 3).take p,bodiesOf rest q⟩≠s)=false:=Gqa fun h=>h (hwb.2 ho)
    rw[K6 hu ⟨by omega,hform,by rw[hwo]; exact ho⟩,hwo]
    refine Wz [24,98,5,61,102] ?_;refine zx (Qj J J (hwk) J) J ?_;refine Wz [0,201,38,6,115] ?_
    exact G4 J J (Gr [3,5,6] J J J)
end
end Go.Proofs.YtpmacgnmlmmojaaGreatDoor
