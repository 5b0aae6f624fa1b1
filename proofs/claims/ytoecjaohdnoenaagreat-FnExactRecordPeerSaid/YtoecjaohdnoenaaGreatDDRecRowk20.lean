/-
  Rules, data and contracts of functions: part 21 of the proof.
  Conditions: those that each theorem names.
-/
import Derived.Test.YtoecjaohdnoenaaGreatDDRecRowk17
import Derived.Test.YtoecjaohdnoenaaGreatDDRecRowk19
set_option linter.unusedSimpArgs false
set_option linter.unusedVariables false
set_option maxRecDepth 8000
set_option maxHeartbeats 8000000
namespace Go.Proofs.YtoecjaohdnoenaaGreat
section
open Go.RowKit

def varN (n:Nat):List UInt8:=if n<128 then [UInt8.ofNat n] else UInt8.ofNat (n%128+128)::varN (n/128)
termination_by n
decreasing_by omega
def encVar (n:Int):List UInt8:=if 0≤n∧n≤1099511627775 then varN n.toNat else []
theorem Vc {n:Nat} (h:n<128):varN n = [UInt8.ofNat n]:=by rw[varN,if_pos h]
theorem varN_big {n:Nat} (h:¬n<128):varN n=UInt8.ofNat (n%128+128)::varN (n/128):=by rw[varN,if_neg h]
theorem varN_len (n:Nat):1≤(varN n).length∧(varN n).length≤n+1:=by
 induction n using Nat.strongRecOn with
 | ind n ih =>
  by_cases h:n<128
  ·rw[Vc h]; simp
  ·rw[varN_big h]
   have:=ih (n/128) (by omega)
   simp only[Gqx]
   omega
theorem varN_step {acc:List UInt8} {m:Nat} {l:List UInt8} (h:acc++varN m=l) (hm:¬m<128) {x:UInt8} (hx:x=UInt8.ofNat (m%128+128)):(acc ++ [x])++varN (m/128)=l:=by
 rw[←h,varN_big hm,hx]; simp
theorem varN_end {acc:List UInt8} {m:Nat} {l:List UInt8} (h:acc++varN m=l) (hm:m<128) {x:UInt8} (hx:x=UInt8.ofNat m):acc ++ [x]=l:=by
 rw[←h,Vc hm,hx]

theorem Xt (n:Int):Con Tryz.prog 274 [] [ai n] [] (S (bs (encVar n))):=by
 refine Con.of Tryz.func274 J Tryz.ntmps274 J (fun E => ?_)
 refine Wz [87,152,106,229,103] ?_
 refine Xb J (fun h => ?_) (fun h => ?_)
 ·simp only[Gqr,decide_eq_true_eq] at h
  refine Wz [98] ?_
  exact Gb J (Gc [] J J (S_eq (by rw[encVar,if_neg (by omega)])))
 simp only[Gqn,decide_eq_false_iff_not] at h
 have he:encVar n=varN n.toNat:=by rw[encVar,if_pos (by omega)]
 rw[he]
 refine Wz [22,32,155] ?_
 refine AWP.pre ?_ (W_nil 3 1 J)
 refine Xj (fun m__ st=>∃ (m:Nat) (acc:List UInt8),m=m__∧(acc++varN m=varN n.toNat∧acc.length+m≤1099511627775)∧st=(⟨_,[(0,I m),(3,.o (.c (.ref 0)))],[.row 1 (bE acc)]⟩:St)) _ ⟨(fun (m:Nat) (acc:List UInt8)=>(⟨_,[(0,I m),(3,.o (.c (.ref 0)))],[.row 1 (bE acc)]⟩:St)) (n.toNat) ([]),⟨n.toNat,[],J,⟨J,by simp <;> omega⟩,J⟩,Ga [0] J (by kernel_rfl) (.cons (Xz (by omega)) (.c J (.nil)))⟩ ?_
 rintro m_A _ ⟨m,acc,hk_A,hp_A,rfl⟩
 refine Wz [40,216,3] ?_
 refine Xb J (fun h5 => ?_) (fun h5 => ?_)
 ·have h5:¬m<128:=by have:=Gqe h5; omega
  have hl:=Yl acc
  refine Wz [22,44,13,149,18,208,101,194,2,33,179,141,122] ?_
  refine⟨_,(by omega),(fun (m:Nat) (acc:List UInt8)=>(⟨_,[(0,I m),(3,.o (.c (.ref 0)))],[.row 1 (bE acc)]⟩:St)) (m/128) (acc ++ [UInt8.ofNat ((m:Int)%128+128).toNat]),⟨m/128,acc ++ [UInt8.ofNat ((m:Int)%128+128).toNat],J,⟨varN_step hp_A.1 h5 (by congr 1 <;> omega),by have:=hp_A.2; simp <;> omega⟩,J⟩,Ga [0] J (Kw (bE_snoc _ _ (by omega)).symm) (.cons (Xz (by omega)) (.c J (.nil)))⟩
 ·have h5:m<128:=by have:=Gqf h5; omega
  have hl:=Yl acc
  have hb:=hp_A.2
  refine Wz [27,13,208,101,194,49,204,17] ?_
  exact Gb J (Gc [] J J (S_eq (congrArg bs (varN_end hp_A.1 h5 (by congr 1)))))
theorem X6 (n:Int):Con Tryz.prog 267 [] [ai n] [] (S (bs (encVar n))):=by
 refine Con.of Tryz.func267 J Tryz.ntmps267 J (fun E => ?_)
 refine Wz [87] ?_;refine zx (Qj J J (Ya n 0 1099511627775) J) J ?_;refine Wz [9,3] ?_
 refine Xb J (fun h => ?_) (fun h => ?_)
 ·have h:¬(0≤n∧n≤1099511627775):=by rw[←Za]; simpa using h
  refine Wz [98] ?_
  exact Gb J (Gc [] J J (S_eq (by rw[encVar,if_neg h])))
 have h:0≤n∧n≤1099511627775:=by rw[←Za]; simpa using h
 have he:encVar n=varN n.toNat:=by rw[encVar,if_pos h]
 rw[he]
 refine Wz [22,4,175,2,155] ?_
 refine Xj (fun m__ st=>∃ (m:Nat) (acc:List UInt8),m=m__∧(acc++varN m=varN n.toNat∧acc.length+m≤1099511627775)∧st=(⟨_,[(0,I m),(3,.o (.c (.ref 0)))],[.row 1 (bE acc)]⟩:St)) _ ⟨(fun (m:Nat) (acc:List UInt8)=>(⟨_,[(0,I m),(3,.o (.c (.ref 0)))],[.row 1 (bE acc)]⟩:St)) (n.toNat) ([]),⟨n.toNat,[],J,⟨J,by simp <;> omega⟩,J⟩,Ga [0] J (by kernel_rfl) (.cons (Xz (by omega)) (.c J (.nil)))⟩ ?_
 rintro m_A _ ⟨m,acc,hk_A,hp_A,rfl⟩
 refine Wz [40,254,3] ?_
 refine Xb J (fun h5 => ?_) (fun h5 => ?_)
 ·have h5:¬m<128:=by have:=Gqe h5; omega
  have hl:=Yl acc
  have hb:=hp_A.2
  have hb1:(m:Int).toNat &&& (127:Int).toNat=m%128:=Gx8 m 7
  have hb2:((m%128:Nat):Int).toNat ||| (128:Int).toNat=m%128+128:=by
   have:=Nat.two_pow_add_eq_or_of_lt (i:=7) (b:=m%128) (by omega) 1
   rw[Nat.or_comm]
   show 128 ||| m%128=_
   rw[←this]; omega
  have hb3:(m:Int)/2 ^ (7:Int).toNat=(m/128:Nat):=by
   show (m:Int)/128=_
   omega
  refine Wz [22,44,13] ?_;refine zx (q_bandK J J J J (by assumption) (by omega)) J ?_;refine Wz [275,208,101,194,2,33] ?_;refine zx (q_shrK J J J J (by assumption) ⟨by omega,by omega,by decide⟩) J ?_;refine Wz [141,122] ?_
  refine⟨_,(by omega),(fun (m:Nat) (acc:List UInt8)=>(⟨_,[(0,I m),(3,.o (.c (.ref 0)))],[.row 1 (bE acc)]⟩:St)) (m/128) (acc ++ [UInt8.ofNat ((m%128+128:Nat):Int).toNat]),⟨m/128,acc ++ [UInt8.ofNat ((m%128+128:Nat):Int).toNat],J,⟨varN_step hp_A.1 h5 (by congr 1),by simp <;> omega⟩,J⟩,Ga [0] J (Kw (bE_snoc _ _ (by omega)).symm) (.c J (.c J (.nil)))⟩
 ·have h5:m<128:=by have:=Gqf h5; omega
  have hl:=Yl acc
  have hb:=hp_A.2
  refine Wz [27,13,208,101,194,204,17] ?_
  exact Gb J (Gc [] J J (S_eq (congrArg bs (varN_end hp_A.1 h5 (by congr 1)))))

theorem varN_pow:∀ (j n:Nat),n<128 ^ (j+1)→(varN n).length≤j+1
 |0,n,h=>by rw[Vc (by omega)]; simp
 | j+1,n,h=>by
  by_cases hn:n<128
  ·rw[Vc hn]; simp
  ·rw[varN_big hn,Gqx]
   have:=varN_pow j (n/128) (by rw[Nat.pow_succ] at h; omega)
   omega
theorem Y2 (n:Int):(encVar n).length≤6:=by
 unfold encVar
 split
 ·exact varN_pow 5 _ (by omega)
 ·simp
def signless (n:Int):Int:=if -549755813888≤n∧n≤549755813887 then (if 0≤n then 2*n else -2*n-1) else -1
theorem I_Signless (n:Int) (hn:I64 n):Con Tryz.prog 296 [] [ai n] [] (I (signless n)):=by
 obtain⟨hn1,hn2⟩:=hn
 refine Con.of Tryz.func296 J Tryz.ntmps296 J (fun E => ?_)
 refine Wz [87,152,106,229,103] ?_
 refine Xb J (fun h => ?_) (fun h => ?_)
 ·simp only[Gqr,decide_eq_true_eq] at h
  refine Wz [98] ?_
  exact Gb J (Gc [] J J (Xz (by rw[signless,if_neg (by omega)])))
 simp only[Gqn,decide_eq_false_iff_not] at h
 refine Wz [22,40,216,3] ?_
 refine Xb J (fun h1 => ?_) (fun h1 => ?_)
 ·have h1:=Gqe h1
  refine Wz [10,117,137] ?_
  exact Gb J (Gc [] J J (Xz (by rw[signless,if_pos (by omega),if_pos (by omega)])))
 ·have h1:=Gqf h1
  refine Wz [22,10,117,65,17] ?_
  exact Gb J (Gc [] J J (Xz (by rw[signless,if_pos (by omega),if_neg (by omega)])))
theorem S_Signless (n:Int) (hn:I64 n):Con Tryz.prog 293 [] [ai n] [] (I (signless n)):=by
 obtain⟨hn1,hn2⟩:=hn
 refine Con.of Tryz.func293 J Tryz.ntmps293 J (fun E => ?_)
 refine Wz [87] ?_;refine zx (Qj J J (Ya n (-549755813888) 549755813887) J) J ?_;refine Wz [9,3] ?_
 refine Xb J (fun h => ?_) (fun h => ?_)
 ·have h:¬(-549755813888≤n∧n≤549755813887):=by rw[←Za]; simpa using h
  refine Wz [98] ?_
  exact Gb J (Gc [] J J (Xz (by rw[signless,if_neg (by omega)])))
 have h : -549755813888≤n∧n≤549755813887:=by rw[←Za]; simpa using h
 refine Wz [22,40,216,3] ?_
 refine Xb J (fun h1 => ?_) (fun h1 => ?_)
 ·have h1:=Gqe h1
  refine Wz [10,117,137] ?_
  exact Gb J (Gc [] J J (Xz (by rw[signless,if_pos (by omega),if_pos (by omega)])))
 ·have h1:=Gqf h1
  refine Wz [22,10,117,65,17] ?_
  exact Gb J (Gc [] J J (Xz (by rw[signless,if_pos (by omega),if_neg (by omega)])))
def packText (s:ByteArray):ByteArray:=bs (encVar s.size)++s
theorem Zp (s:ByteArray):(packText s).size≤s.size+6:=by
 unfold packText
 rw[cat_size,Yp]
 have:=Y2 s.size
 omega
theorem I_PackText (s:ByteArray) (hs:s.size≤1099511627776):Con Tryz.prog 301 [] [astr s] [] (S (packText s)):=by
 have h1:=Yp (encVar s.size)
 have h2:=Y2 s.size
 refine Con.of Tryz.func301 J Tryz.ntmps301 J (fun E => ?_)
 refine Wz [32,10,72] ?_;refine zx (Qj J J (Xt s.size) J) J ?_;refine Wz [0,231,17] ?_
 exact Gb J (Gc [] J J J)
theorem S_PackText (s:ByteArray) (hs:s.size≤1099511627776):Con Tryz.prog 298 [] [astr s] [] (S (packText s)):=by
 have h1:=Yp (encVar s.size)
 have h2:=Y2 s.size
 refine Con.of Tryz.func298 J Tryz.ntmps298 J (fun E => ?_)
 refine Wz [32,10,72] ?_;refine zx (Qj J J (X6 s.size) J) J ?_;refine Wz [0,231,17] ?_
 exact Gb J (Gc [] J J J)
def packK (xs:List Int) (k:Nat):List UInt8:=encVar xs.length++(xs.take k).flatMap fun x=>encVar (signless x)
def packInts (xs:List Int):ByteArray:=if xs.all (fun x=>decide (0≤signless x)) then bs (packK xs xs.length) else bs []
theorem packK_succ {xs:List Int} {k:Nat} (h:k<xs.length):packK xs (k+1)=packK xs k++encVar (signless xs[k]):=by
 unfold packK
 rw[Gq1 h,List.flatMap_append,Gqu]
 simp
theorem packK_len (xs:List Int):∀ k,k≤xs.length→(packK xs k).length≤6*k+6
 |0,_=>by simp[packK]; exact Y2 _
 |k+1,h=>by
  rw[packK_succ (by omega),Gqg]
  have:=packK_len xs k (by omega)
  have:=Y2 (signless xs[k])
  omega
theorem packInts_size (xs:List Int):(packInts xs).size≤6*xs.length+6:=by
 unfold packInts
 split
 ·rw[Yp]; exact packK_len xs _ (Gqk _)
 ·rw[Yp]; simp
theorem I_PackInts (xs:List Int) (hg:Enc.gd xs) (hL:xs.length≤1073741824):Con Tryz.prog 262 [] [al xs] [] (S (packInts xs)):=by
 have hlx:=Yx xs
 have h1:=Yp (encVar (els xs).length)
 have h2:=Y2 (els xs).length
 refine Con.of Tryz.func262 J Tryz.ntmps262 J (fun E => ?_)
 refine Wz [32,10,7] ?_;refine zx (Qj J J (Xt (els xs).length) J) J ?_;refine M1 (q_strb J J J (by omega)) J J ?_;refine Wz [78,7,142,44] ?_
 refine Xj (fun m st=>∃ k:Nat,k+m=xs.length∧((xs.take k).all (fun x=>decide (0≤signless x))=true)∧st=(⟨_,[(3,.o (.c (.ref 0))),(11,L xs),(12,I (els xs).length),(13,I k)],[.row 1 (bE (packK xs k))]⟩:St)) (xs.length) ⟨(fun k:Nat=>(⟨_,[(3,.o (.c (.ref 0))),(11,L xs),(12,I (els xs).length),(13,I k)],[.row 1 (bE (packK xs k))]⟩:St)) 0,⟨0,by omega,by simp,J⟩,Ga [0] J (Kw (by rw[Yo,hlx]; simp[packK])) (.c J (.c J (.c J (.c J (.nil)))))⟩ ?_
 rintro m_A _ ⟨k,hk_A,hp_A,rfl⟩
 refine Wz [4,37,8] ?_
 refine Xb J (fun h => ?_) (fun h => ?_)
 ·have h3:k<xs.length:=by have:=Gqe h; omega
  have hat:=Yv h3
  have hb1:=Yl (packK xs k)
  have hb2:=packK_len xs k (by omega)
  have hb3:=Yp (encVar (signless xs[k]))
  have hb4:=Y2 (signless xs[k])
  refine Wz [11,4,59,49] ?_;refine zx (Qj J J (I_Signless xs[k] (hg.2 _ (Gqj h3))) J) J ?_;refine Wz [78,37] ?_
  refine Xb J (fun h4 => ?_) (fun h4 => ?_)
  ·refine Wz [26,62,220,220] ?_
   refine Wz [174,64] ?_
   exact Gb J (Gc [] J J (S_eq (by rw[packInts,all_no h3 (by simpa using h4)]; rfl)))
  ·refine Wz [22,33,0] ?_
   refine zx (Qj J J (Xt (signless xs[k])) J) J ?_;refine Wz [261,141,93] ?_
   exact⟨xs.length-(k+1),by omega,_,⟨k+1,by omega,Yi hp_A h3 (by simpa using h4),J⟩,(by rw[Yo,Yk,packK_succ h3]; exact Gi [0])⟩
 ·have h3:¬((k:Int)<(els xs).length):=Gqf h
  have hk:k=xs.length:=by omega
  refine Wz [89,204,17] ?_
  exact Gb J (Gc [] J J (S_eq (by rw[packInts,G4 hp_A,hk]; rfl)))
theorem S_PackInts (xs:List Int) (hg:Enc.gd xs) (hL:xs.length≤1073741824):Con Tryz.prog 258 [] [al xs] [] (S (packInts xs)):=by
 have hlx:=Yx xs
 refine Con.of Tryz.func258 J Tryz.ntmps258 J (fun E => ?_)
 refine Wz [32,10,7] ?_;refine zx (Qj J J (X6 (els xs).length) J) J ?_;refine Wz [2,46] ?_
 refine Xj (fun m st=>∃ k:Nat,k+m=xs.length∧((xs.take k).all (fun x=>decide (0≤signless x))=true)∧st=(⟨_,[(0,L xs),(3,S (bs (packK xs k))),(4,I k)],[]⟩:St)) (xs.length) ⟨(fun k:Nat=>(⟨_,[(0,L xs),(3,S (bs (packK xs k))),(4,I k)],[]⟩:St)) 0,⟨0,by omega,by simp,J⟩,Ga [] J (by kernel_rfl) (.c J (.cons (S_eq (by rw[hlx]; simp[packK])) (.c J (.nil))))⟩ ?_
 rintro m_A _ ⟨k,hk_A,hp_A,rfl⟩
 refine Wz [20,7,37] ?_
 refine Xb J (fun h => ?_) (fun h => ?_)
 ·have h3:k<xs.length:=by have:=Gqe h; omega
  have hat:=Yv h3
  have hb1:=Yp (packK xs k)
  have hb2:=packK_len xs k (by omega)
  have hb3:=Yp (encVar (signless xs[k]))
  have hb4:=Y2 (signless xs[k])
  have hc:=S_Signless xs[k] (hg.2 _ (Gqj h3))
  refine Wz [11,20,59] ?_;refine zx (Qj J J (hc) J) J ?_;refine Wz [37] ?_
  refine Xb J (fun h4 => ?_) (fun h4 => ?_)
  ·refine Wz [26,62,220,220] ?_
   refine Wz [174,64] ?_
   exact Gb J (Gc [] J J (S_eq (by rw[packInts,all_no h3 (by simpa using h4)]; rfl)))
  ·refine Wz [22,33,132] ?_
   refine Wz [59] ?_;refine zx (Qj J J (hc) J) J ?_;refine zx (Qj J J (X6 (signless xs[k])) J) J ?_;refine Wz [231,104] ?_
   exact⟨xs.length-(k+1),by omega,(fun k:Nat=>(⟨_,[(0,L xs),(3,S (bs (packK xs k))),(4,I k)],[]⟩:St)) (k+1),⟨k+1,by omega,Yi hp_A h3 (by simpa using h4),J⟩,Ga [] J (by kernel_rfl) (.c J (.cons (S_eq (by rw[Yn,packK_succ h3])) (.c J (.nil))))⟩
 ·have h3:¬((k:Int)<(els xs).length):=Gqf h
  have hk:k=xs.length:=by omega
  refine Wz [89,17] ?_
  exact Gb J (Gc [] J J (S_eq (by rw[packInts,G4 hp_A,hk]; rfl)))
end
section
open Go.RowKit

theorem W_pre {st st':St} {f:List (Nat×V)→St} (h:Wk st st') (k:∃ l,Wk st' (f l)):∃ l,Wk st (f l):=k.imp fun _ hl=>h.trans hl
theorem row2b {k:Nat} {o:Ob} {a b:List (List T)} (h:a=b) : [o,Ob.row k a] = [o,Ob.row k b]:=by rw[h]
def bodyInts (b:TBody):List Int := [b.Kind,b.Owner,b.X,b.Y,b.VX,b.VY,b.Aim,b.Life,b.Timer]
def worldInts (w:TWorld):List Int:=([w.Tick,w.Seed,(w.Scores.length:Int)]++w.Scores)++w.Bodies.flatMap bodyInts
noncomputable def worldBytes (w:TWorld):ByteArray:=if worldOk w=true then packInts (worldInts w) else ⟨#[]⟩
theorem Yu {α:Type} [Enc α] (xs ys:List α):els (xs++ys)=els xs++els ys:=List.map_append
theorem flat_snoc {bs:List TBody} {k:Nat} (h:k<bs.length):(bs.take (k+1)).flatMap bodyInts=(bs.take k).flatMap bodyInts++bodyInts bs[k]:=by
 rw[Gq1 h,List.flatMap_append]
 simp
theorem flat_len (bs:List TBody):∀ k,k≤bs.length→((bs.take k).flatMap bodyInts).length=9*k
 |0,_=>by simp
 |k+1,h=>by
  rw[flat_snoc (by omega),Gqg,flat_len bs k (by omega)]
  simp[bodyInts]
  omega
theorem flat_gd {bs:List TBody} (hg:∀ b∈bs,Enc.gd b):∀ x∈bs.flatMap bodyInts,I64 x:=fun x hx=>by
 obtain⟨b,hb,hx⟩:=List.mem_flatMap.1 hx
 obtain⟨b1,b2,b3,b4,b5,b6,b7,b8,b9⟩:=hg b hb
 simp only[bodyInts,List.mem_cons,Gx7,or_false] at hx
 rcases hx with rfl | rfl | rfl | rfl | rfl | rfl | rfl | rfl | rfl <;> assumption
theorem I_bodyInts (b:TBody):Con Tryz.prog 261 [] [ag b] [.row 1 (els (bodyInts b))] (.o (.c (.ref 0))):=by
 refine Con.of Tryz.func261 J Tryz.ntmps261 J (fun E => ?_)
 refine Wz [82,23,16,16,16,16,16,16,16,16,101,17] ?_
 exact Gb J (W_pre (Wk.sbrow (q:=1) J J (Gqw J)) (Gc [1] J J J))
theorem I_WorldBytes (x:TWorld) (hg:Enc.gd x):Con Tryz.prog 222 [] [ag x] [] (S (worldBytes x)):=by
 have hc:=Xw x hg
 obtain⟨gL,gT,gS,gSc,gB⟩:=hg
 cases ho:worldOk x with
 |false =>
  rw[ho] at hc
  rw[show worldBytes x=⟨#[]⟩ by rw[worldBytes,ho]; exact if_neg (by decide)]
  refine Con.of Tryz.func222 J Tryz.ntmps222 J (fun E => ?_)
  refine Wz [82,55] ?_;refine zx (Qj J J (hc) J) J ?_;refine Wz [9,39] ?_
  exact Gb J (Gc [] J J J)
 | true =>
  rw[ho] at hc
  rw[show worldBytes x=packInts (worldInts x) by rw[worldBytes,ho]; exact if_pos rfl]
  obtain⟨_,_,_,hn,_,hb,_⟩:=Vf ho
  have hls:=Yx x.Scores
  have hlb:=Yx x.Bodies
  refine Con.of Tryz.func222 J Tryz.ntmps222 J (fun E => ?_)
  refine Wz [82,55] ?_;refine zx (Qj J J (hc) J) J ?_;refine Wz [73,23,16,16,7,101,49,16] ?_
  have hl3:(els [x.Tick,x.Seed,((els x.Scores).length:Int)]).length=3:=rfl
  refine AL.weak (Wk.sbrow (q:=1) (es:=els [x.Tick,x.Seed,((els x.Scores).length:Int)]) J J (Gqw J)) ?_;refine AL.weak (st':=(⟨_,[(1,.o (.c (.ptr 0 0))),(17,.o (.c (.ref 1))),(19,L x.Scores)],[.box ((Enc.e x).map (V1.rd [])),.row 1 (els [x.Tick,x.Seed,((els x.Scores).length:Int)])]⟩:St)) (Gi [0,1]) ?_;refine M_app J J J J J J J J J J (Yy _) (els_k _) (by omega) (by omega) ?_;refine Wz [2,42,7,142,44] ?_
  have hini:els (([x.Tick,x.Seed,(x.Scores.length:Int)]++x.Scores)++(x.Bodies.take 0).flatMap bodyInts)=els [x.Tick,x.Seed,((els x.Scores).length:Int)]++els x.Scores:=by rw[List.take_zero,List.flatMap_nil,Gxi,Yu,hls]
  refine Xj (fun m st=>∃ k:Nat,k+m=x.Bodies.length∧(True)∧st=(⟨_,[(1,.o (.c (.ptr 0 0))),(3,.o (.c (.ref 1))),(22,L x.Bodies),(23,I (els x.Bodies).length),(24,I k)],[.box ((Enc.e x).map (V1.rd [])),.row 1 (els (([x.Tick,x.Seed,(x.Scores.length:Int)]++x.Scores)++(x.Bodies.take k).flatMap bodyInts))]⟩:St)) (x.Bodies.length) ⟨(fun k:Nat=>(⟨_,[(1,.o (.c (.ptr 0 0))),(3,.o (.c (.ref 1))),(22,L x.Bodies),(23,I (els x.Bodies).length),(24,I k)],[.box ((Enc.e x).map (V1.rd [])),.row 1 (els (([x.Tick,x.Seed,(x.Scores.length:Int)]++x.Scores)++(x.Bodies.take k).flatMap bodyInts))]⟩:St)) 0,⟨0,by omega,trivial,J⟩,Ga [0,1] J (row2b hini) (.c J (.c J (.c J (.c J (.c J (.nil))))))⟩ ?_
  rintro m_A _ ⟨k,hk_A,hp_A,rfl⟩
  have hla:=Yx (([x.Tick,x.Seed,(x.Scores.length:Int)]++x.Scores)++(x.Bodies.take k).flatMap bodyInts)
  have hfl:=flat_len x.Bodies k (by omega)
  have hlc:(([x.Tick,x.Seed,(x.Scores.length:Int)]++x.Scores)++(x.Bodies.take k).flatMap bodyInts).length=3+x.Scores.length+9*k:=by
   rw[Gqg,Gqg,hfl]; rfl
  refine Wz [4,37,8] ?_
  refine Xb J (fun h => ?_) (fun h => ?_)
  ·have h3:k<x.Bodies.length:=by have:=Gqe h; omega
   have hat:=Yv h3
   have hlb9:(els (bodyInts x.Bodies[k])).length=9:=rfl
   refine Wz [11,4,110,131,94,33,92] ?_;refine M1 (Z3 J J (I_bodyInts x.Bodies[k]) J J J) J J ?_;refine M_app J J J J J J J J J J (Yy _) (els_k _) (by omega) (by omega) ?_;refine Wz [141,93] ?_
   exact⟨x.Bodies.length-(k+1),by omega,(fun k:Nat=>(⟨_,[(1,.o (.c (.ptr 0 0))),(3,.o (.c (.ref 1))),(22,L x.Bodies),(23,I (els x.Bodies).length),(24,I k)],[.box ((Enc.e x).map (V1.rd [])),.row 1 (els (([x.Tick,x.Seed,(x.Scores.length:Int)]++x.Scores)++(x.Bodies.take k).flatMap bodyInts))]⟩:St)) (k+1),⟨k+1,by omega,trivial,J⟩,Ga [0,1] J (row2b (by rw[flat_snoc h3,←Gqu,Yu _ (bodyInts x.Bodies[k])])) (.c J (.c J (.c J (.c J (.c J (.nil))))))⟩
  ·have h3:¬k<x.Bodies.length:=by have:=Gqf h; omega
   have hk:x.Bodies.take k=x.Bodies:=Gq3 (by omega)
   rw[hk] at hlc hla ⊢
   have hgi:Enc.gd (([x.Tick,x.Seed,(x.Scores.length:Int)]++x.Scores)++x.Bodies.flatMap bodyInts):=⟨by omega,fun y hy=>by
    rcases Gqp.1 hy with hy | hy
    ·rcases Gqp.1 hy with hy | hy
     ·simp only[List.mem_cons,Gx7,or_false] at hy
      rcases hy with rfl | rfl | rfl
      ·exact gT
      ·exact gS
      ·exact⟨by omega,by omega⟩
     ·exact gSc.2 y hy
    ·exact flat_gd gB.2 y hy⟩
   have hp:=I_PackInts (([x.Tick,x.Seed,(x.Scores.length:Int)]++x.Scores)++x.Bodies.flatMap bodyInts) hgi (by omega)
   refine Wz [89] ?_;refine zx (Qj J J (hp) J) J ?_;refine Wz [17] ?_
   exact Gb J (Gc [] J J J)
theorem X8 (x:TWorld) (hg:Enc.gd x):Con Tryz.prog 220 [] [ag x] [] (S (worldBytes x)):=by
 have hc:=S_WorldOk x hg
 obtain⟨gL,gT,gS,gSc,gB⟩:=hg
 cases ho:worldOk x with
 |false =>
  rw[ho] at hc
  rw[show worldBytes x=⟨#[]⟩ by rw[worldBytes,ho]; exact if_neg (by decide)]
  refine Con.of Tryz.func220 J Tryz.ntmps220 J (fun E => ?_)
  refine Wz [82,55] ?_;refine zx (Qj J J (hc) J) J ?_;refine Wz [9,39] ?_
  exact Gb J (Gc [] J J J)
 | true =>
  rw[ho] at hc
  rw[show worldBytes x=packInts (worldInts x) by rw[worldBytes,ho]; exact if_pos rfl]
  obtain⟨_,_,_,hn,_,hb,_⟩:=Vf ho
  have hls:=Yx x.Scores
  have hlb:=Yx x.Bodies
  refine Con.of Tryz.func220 J Tryz.ntmps220 J (fun E => ?_)
  refine Wz [82,55] ?_;refine zx (Qj J J (hc) J) J ?_;refine Wz [73,23,16,16,7,101,16] ?_
  have hl3:(els [x.Tick,x.Seed,((els x.Scores).length:Int)]).length=3:=rfl
  refine AL.weak (Wk.sbrow (q:=1) (es:=els [x.Tick,x.Seed,((els x.Scores).length:Int)]) J J (Gqw J)) ?_;refine AL.weak (st':=(⟨_,[(1,.o (.c (.ptr 0 0))),(16,.o (.c (.ref 1))),(18,L x.Scores)],[.box ((Enc.e x).map (V1.rd [])),.row 1 (els [x.Tick,x.Seed,((els x.Scores).length:Int)])]⟩:St)) (Gi [0,1]) ?_;refine M_app J J J J J J J J J J (Yy _) (els_k _) (by omega) (by omega) ?_;refine Wz [2,46] ?_
  have hini:els (([x.Tick,x.Seed,(x.Scores.length:Int)]++x.Scores)++(x.Bodies.take 0).flatMap bodyInts)=els [x.Tick,x.Seed,((els x.Scores).length:Int)]++els x.Scores:=by rw[List.take_zero,List.flatMap_nil,Gxi,Yu,hls]
  refine Xj (fun m st=>∃ k:Nat,k+m=x.Bodies.length∧(True)∧st=(⟨_,[(1,.o (.c (.ptr 0 0))),(3,.o (.c (.ref 1))),(4,I k)],[.box ((Enc.e x).map (V1.rd [])),.row 1 (els (([x.Tick,x.Seed,(x.Scores.length:Int)]++x.Scores)++(x.Bodies.take k).flatMap bodyInts))]⟩:St)) (x.Bodies.length) ⟨(fun k:Nat=>(⟨_,[(1,.o (.c (.ptr 0 0))),(3,.o (.c (.ref 1))),(4,I k)],[.box ((Enc.e x).map (V1.rd [])),.row 1 (els (([x.Tick,x.Seed,(x.Scores.length:Int)]++x.Scores)++(x.Bodies.take k).flatMap bodyInts))]⟩:St)) 0,⟨0,by omega,trivial,J⟩,Ga [0,1] J (row2b hini) (.c J (.c J (.c J (.nil))))⟩ ?_
  rintro m_A _ ⟨k,hk_A,hp_A,rfl⟩
  have hla:=Yx (([x.Tick,x.Seed,(x.Scores.length:Int)]++x.Scores)++(x.Bodies.take k).flatMap bodyInts)
  have hfl:=flat_len x.Bodies k (by omega)
  have hlc:(([x.Tick,x.Seed,(x.Scores.length:Int)]++x.Scores)++(x.Bodies.take k).flatMap bodyInts).length=3+x.Scores.length+9*k:=by
   rw[Gqg,Gqg,hfl]; rfl
  refine Wz [40,16,7,37] ?_
  refine Xb J (fun h => ?_) (fun h => ?_)
  ·have h3:k<x.Bodies.length:=by have:=Gqe h; omega
   have hat:=Yv h3
   have hlb9:(els (bodyInts x.Bodies[k])).length=9:=rfl
   refine Wz [11,52,110,131,94,33,16,16,16,16,16,16,16,16,16,101,194,104] ?_
   exact⟨x.Bodies.length-(k+1),by omega,(fun k:Nat=>(⟨_,[(1,.o (.c (.ptr 0 0))),(3,.o (.c (.ref 1))),(4,I k)],[.box ((Enc.e x).map (V1.rd [])),.row 1 (els (([x.Tick,x.Seed,(x.Scores.length:Int)]++x.Scores)++(x.Bodies.take k).flatMap bodyInts))]⟩:St)) (k+1),⟨k+1,by omega,trivial,J⟩,Ga [0,1] J (row2b (by rw[flat_snoc h3,←Gqu,Yu _ (bodyInts x.Bodies[k])]; rfl)) (.c J (.c J (.c J (.nil))))⟩
  ·have h3:¬k<x.Bodies.length:=by have:=Gqf h; omega
   have hk:x.Bodies.take k=x.Bodies:=Gq3 (by omega)
   rw[hk] at hlc hla ⊢
   have hgi:Enc.gd (([x.Tick,x.Seed,(x.Scores.length:Int)]++x.Scores)++x.Bodies.flatMap bodyInts):=⟨by omega,fun y hy=>by
    rcases Gqp.1 hy with hy | hy
    ·rcases Gqp.1 hy with hy | hy
     ·simp only[List.mem_cons,Gx7,or_false] at hy
      rcases hy with rfl | rfl | rfl
      ·exact gT
      ·exact gS
      ·exact⟨by omega,by omega⟩
     ·exact gSc.2 y hy
    ·exact flat_gd gB.2 y hy⟩
   have hp:=S_PackInts (([x.Tick,x.Seed,(x.Scores.length:Int)]++x.Scores)++x.Bodies.flatMap bodyInts) hgi (by omega)
   refine Wz [89] ?_;refine zx (Qj J J (hp) J) J ?_;refine Wz [17] ?_
   exact Gb J (Gc [] J J J)
end
section
open Go.RowKit

def dvGo (s:ByteArray) (p:Nat) (n:Int) (k:Nat):Nat→Option (Int×Nat)
 |0=>none
 | f+1=>if p+k<s.size then
   (if 128≤byteAt s (p+k) then dvGo s p (n+byteAt s (p+k)%128*2 ^ (7*k)) (k+1) f
    else if (byteAt s (p+k)=0∧0<k)∨1099511627775<n+byteAt s (p+k)%128*2 ^ (7*k) then none
    else some (n+byteAt s (p+k)%128*2 ^ (7*k),k+1)) else none
def decVar (s:ByteArray) (p:Int):Option (Int×Nat):=if 0≤p∧p<s.size then dvGo s p.toNat 0 0 6 else none
@[reducible] def bv (b:Bool):V1 := .rd [] (.v (.bool b))
@[reducible] def jn (n:Int):V1 := .rd [] (.v (.int .i64 n))
@[reducible] def dvR:Option (Int×Nat)→V
 |none => .tu [.c (jn 0),.c (jn 0),.c (bv false)]
 |some (n,k) => .tu [.c (jn n),.c (jn k),.c (bv true)]
theorem pow7 {k:Nat} (h:k≤6):∃ M:Nat,2 ^ (7*k)=M∧1≤M∧M≤4398046511104:=by
 refine⟨_,J,Nat.one_le_two_pow,?_⟩
 exact Gxg (Nat.pow_le_pow_right (by omega) (show 7*k≤42 by omega)) (by decide)
theorem pow7s (k:Nat):2 ^ (7*(k+1))=128*2 ^ (7*k):=by
 rw[show 7*(k+1)=7*k+7 by omega,Nat.pow_add]
 omega
theorem dv_part {c:Int} {M:Nat} (h0:0≤c) (h1:c<128):0≤c*(M:Int)∧c*(M:Int)≤127*M:=by
 refine⟨Int.mul_nonneg h0 (by omega),Int.mul_le_mul_of_nonneg_right (by omega) (by omega)⟩
theorem pow7i (k:Nat):(2:Int) ^ (7*(k:Int)).toNat=((2 ^ (7*k):Nat):Int):=by
 rw[show (7*(k:Int)).toNat=7*k by omega]
 norm_cast
theorem Xs (s:ByteArray) (p:Int) (hs:s.size≤1099511627776) (hp:I64 p):Con Tryz.prog 294 [] [astr s,ai p] [] (dvR (decVar s p)):=by
 obtain⟨hp1,hp2⟩:=hp
 by_cases hin:¬(0≤p∧p<s.size)
 ·rw[show decVar s p=none by rw[decVar,if_neg hin]]
  refine Con.of Tryz.func294 J Tryz.ntmps294 J (fun E => ?_)
  refine Wz [4,95,78,152,106,256] ?_;refine zx (Vz J (.hit (.hit .stop)) (fun hgrd=>Kd J J J)) J ?_;refine zx (Vz J (.hit (.hit (.hit .stop))) (fun hgrd=>q_geq J J J J)) J ?_;refine Wz [103] ?_
  refine Xb J (fun h => ?_) (fun h => ?_)
  ·refine Wz [4,95,141] ?_
   refine Wz [301,74,64] ?_
   exact Xr J J J J (Gc [] J J J)
  ·simp only[Gqn,decide_eq_false_iff_not] at h
   omega
 have hin:=Classical.not_not.1 hin
 obtain⟨q,rfl⟩:∃ q:Nat,p=q:=⟨p.toNat,by omega⟩
 rw[show decVar s q=dvGo s q 0 0 6 by rw[decVar,if_pos hin]; rfl]
 have hb1:decide ((q:Int)<0)=false:=Gqa (by omega)
 have hb2:decide ((s.size:Int)≤q)=false:=Gqa (by omega)
 refine Con.of Tryz.func294 J Tryz.ntmps294 J (fun E => ?_)
 refine Wz [4,95,148,81,72,1,143,60,32,46] ?_;refine Xj (fun m__ st=>∃ (k:Nat) (n:Int),6-k=m__∧(k≤6∧0≤n∧n<((2 ^ (7*k):Nat):Int)∧dvGo s q n k (6-k)=dvGo s q 0 0 6)∧st=(⟨_,[(0,S s),(1,I q),(7,I n),(8,I k)],[]⟩:St)) _ ⟨_,⟨0,0,J,⟨by omega,by omega,by simp,J⟩,J⟩,Gi []⟩ ?_
 rintro m_A _ ⟨k,n,hk_A,hp_A,rfl⟩
 obtain⟨hk6,hn0,hn1,hgo⟩:=hp_A
 obtain⟨M,hM,hM1,hM2⟩:=pow7 hk6
 have hMs:=pow7s k
 rw[hM] at hn1 hMs
 rw[←hgo]
 refine Wz [40,152,0,156,228,276] ?_;refine zx (Qt.grdT J J J (.hit (.hit (.hit .stop))) (fun hgrd=>Qa J J J)) J ?_;refine zx (Qt.grdT J J J (.hit (.hit (.hit (.hit .stop)))) (fun hgrd=>Xc J J J J (by omega))) J ?_;refine zx (Qt.grdT J J J (.hit (.hit (.hit (.hit (.hit .stop))))) (fun hgrd=>Kh J J J J)) J ?_;refine Wz [79,3] ?_
 refine Xb J (fun h => ?_) (fun h => ?_)
 ·simp only[Gqi,decide_eq_true_eq] at h
  have hlt:q+k<s.size:=by omega
  obtain⟨f,hf⟩:∃ f,6-k=f+1:=⟨5-k,by omega⟩
  obtain⟨c,hc⟩:∃ c,byteAt s (q+k)=c:=⟨_,rfl⟩
  have hcr:=Yq s (q+k)
  rw[hc] at hcr
  have hc1:byteAt s ((q:Int)+(k:Int)).toNat=c:=by rw[←hc]; congr 1
  obtain⟨d,hd⟩:∃ d:Nat,c%128=d:=⟨(c%128).toNat,by omega⟩
  have hd1:c.toNat &&& (127:Int).toNat=d:=by
   rw[show (127:Int).toNat=2 ^ 7-1 from rfl,Gx8]
   omega
  have hdM:=dv_part (c:=d) (M:=M) (by omega) (by omega)
  obtain⟨r,hr⟩:∃ r,(d:Int)*M=r:=⟨_,rfl⟩
  rw[hr] at hdM
  have hr1:(d:Int)*2 ^ (7*(k:Int)).toNat=r:=by rw[pow7i,hM,hr]
  have hgo1:dvGo s q n k (f+1)=if 128≤c then dvGo s q (n+r) (k+1) f else if (c=0∧0<k)∨1099511627775<n+r then none else some (n+r,k+1):=by
   have h9:c%128*2 ^ (7*k)=r:=by
    rw[hd,←hr,←hM]
    norm_cast
   rw[dvGo,if_pos hlt,hc,h9]
  rw[hf,hgo1]
  by_cases h7:128≤c
  ·have hb7:decide (128≤c)=true:=Gqb h7
   refine Wz [11,99,18,158,2,13,262,182,0,117,263,18,78,143,29,164,165,33,105] ?_
   refine⟨_,(by omega),_,⟨k+1,n+r,J,⟨by omega,by omega,by rw[hMs]; omega,by rw[if_pos h7,show 6-(k+1)=f by omega]⟩,J⟩,Gi []⟩
  have hb7:decide (128≤c)=false:=Gqa h7
  rw[if_neg h7]
  refine Wz [11,99,18,158,2,13,262,182,0,117,263,18,78,143,41,40,186,0,156] ?_;refine zx (Qt.grdT J J J (.hit .stop) (fun hgrd=>Z9 J J J J)) J ?_;refine Wz [79,106,229,103] ?_
  refine Xb J (fun h8 => ?_) (fun h8 => ?_)
  ·simp only[Gqr,Gqi,decide_eq_true_eq] at h8
   rw[if_pos (by omega)]
   refine Wz [4,95,135,62,145,64] ?_
   exact Xr J J J J (Gc [] J J J)
  ·simp only[Gqn,Gxn,decide_eq_false_iff_not] at h8
   rw[if_neg (by omega)]
   refine Wz [22,13,18,95,135,69] ?_
   exact Xr J J J J (Gc [] J J J)
 ·simp only[Gxn,decide_eq_false_iff_not] at h
  rw[show dvGo s q n k (6-k)=none by
   cases hf:6-k with
   |zero=>rfl
   |succ f=>rw[dvGo,if_neg (by omega)]]
  refine Wz [27,4,95,17] ?_
  exact Xr J J J J (Gc [] J J J)
theorem or_add {n r M:Nat} {k d:Nat} (hM:2 ^ (7*k)=M) (hn:n<M) (hr:d*M=r):n ||| r=n+r:=by
 subst hM
 rw[←hr,Nat.mul_comm,Nat.add_comm,Nat.or_comm]
 exact (Nat.two_pow_add_eq_or_of_lt hn d).symm
def bytesL (s:ByteArray) (p k:Nat):List UInt8:=(s.data.toList.drop p).take k
theorem byteAt_list {s:ByteArray} {i:Nat} (h:i<s.size):∃ b:UInt8,s.data.toList[i]? = some b∧byteAt s i=(b.toNat:Int):=by
 have h1:i<s.data.size:=h
 refine⟨s.data[i],by simp[h1],?_⟩
 unfold byteAt
 have:s[i]? = some s.data[i]:=by
  rw[getElem?_pos s i h]
  rfl
 rw[this]
 rfl
theorem bytesL_succ {s:ByteArray} {p k:Nat} (h:p+k<s.size):∃ b:UInt8,bytesL s p (k+1)=bytesL s p k ++ [b]∧byteAt s (p+k)=(b.toNat:Int):=by
 obtain⟨b,h1,h2⟩:=byteAt_list h
 refine⟨b,?_,h2⟩
 unfold bytesL
 rw[List.take_add_one,Gq5,h1]
 rfl
def dval:List UInt8→Nat
 | []=>0
 |b::l=>b.toNat%128+128*dval l
theorem dval_snoc (b:UInt8):∀ l:List UInt8,dval (l ++ [b])=dval l+b.toNat%128*2 ^ (7*l.length)
 | []=>by simp[dval]
 |a::l=>by
  have h1:=dval_snoc b l
  have h2:=pow7s l.length
  simp only[List.cons_append,dval,Gqx,h1,h2]
  rw[Nat.mul_add,Gxy,Nat.mul_left_comm]
theorem dval_lt:∀ l:List UInt8,dval l<2 ^ (7*l.length)
 | []=>by simp[dval]
 |a::l=>by
  have h1:=dval_lt l
  have h2:=pow7s l.length
  simp only[dval,Gqx,h2]
  omega
theorem dval_zero {b:UInt8} (hb:b.toNat<128):∀ {l:List UInt8},dval (l ++ [b])=0→b.toNat=0
 | [],h=>by simp[dval] at h; omega
 |a::l,h=>by
  simp only[List.cons_append,dval] at h
  exact dval_zero hb (l:=l) (by omega)
theorem canon {b:UInt8} (hb:b.toNat<128):∀ (l:List UInt8),(∀ a∈l,128≤a.toNat)→(varN (dval (l ++ [b]))=l ++ [b]↔(l = []∨b.toNat≠0))
 | [],_=>by
  simp only[List.nil_append,dval,true_or,iff_true]
  rw[Nat.mod_eq_of_lt hb,Nat.mul_zero,Gx5,Vc hb,UInt8.ofNat_toNat]
 | a::l,h=>by
  have ih:=canon hb l fun x hx=>h x (by simp[hx])
  have ha:=h a (by simp)
  have ha2:=a.toNat_lt
  simp only[List.cons_append,dval]
  by_cases hD:dval (l ++ [b])=0
  ·have h0:=dval_zero hb hD
   rw[hD,Nat.mul_zero,Gx5,Vc (by omega)]
   constructor
   ·intro e
    have:=congrArg List.length e
    simp at this
   ·intro e
    rcases e with e | e
    ·cases e
    ·exact absurd h0 e
  ·have hm:(a.toNat%128+128*dval (l ++ [b]))%128=a.toNat%128:=by omega
   have hq:(a.toNat%128+128*dval (l ++ [b]))/128=dval (l ++ [b]):=by omega
   have ha3:UInt8.ofNat (a.toNat%128+128)=a:=by
    rw[show a.toNat%128+128=a.toNat by omega,UInt8.ofNat_toNat]
   rw[varN_big (by omega),hm,hq,ha3]
   simp only[List.cons.injEq,true_and]
   rw[ih]
   constructor
   ·intro e
    rcases e with rfl | e
    ·refine .inr fun e=>hD ?_
     simp[dval,e]
    ·exact .inr e
   ·intro e
    rcases e with e | e
    ·cases e
    ·exact .inr e
theorem extract_list (s:ByteArray) (p q:Nat):(s.extract p q).data.toList=(s.data.toList.drop p).take (q-p):=by
 rw[ByteArray.data_extract,Array.toList_extract]
theorem extract_bytes (s:ByteArray) (p k:Nat):s.extract p (p+k)=bs (bytesL s p k):=by
 rw[←bs_of (s.extract p (p+k)),extract_list,show p+k-p=k by omega]
 rfl
theorem X5 (s:ByteArray) (p:Int) (hs:s.size≤1099511627776) (hp:I64 p):Con Tryz.prog 291 [] [astr s,ai p] [] (dvR (decVar s p)):=by
 obtain⟨hp1,hp2⟩:=hp
 by_cases hneg:p<0
 ·have hb1:decide (p<0)=true:=Gqb hneg
  rw[show decVar s p=none by rw[decVar,if_neg (by omega)]]
  refine Con.of Tryz.func291 J Tryz.ntmps291 J (fun E => ?_)
  refine Wz [4,95,148,50,95,137] ?_
  exact Xr J J J J (Gc [] J J J)
 have hb1:decide (p<0)=false:=Gqa hneg
 by_cases hbig:(s.size:Int)≤p
 ·have hb2:decide (p<(s.size:Int))=false:=Gqa (by omega)
  rw[show decVar s p=none by rw[decVar,if_neg (by omega)]]
  refine Con.of Tryz.func291 J Tryz.ntmps291 J (fun E => ?_)
  refine Wz [4,95,91,32,46] ?_;refine Xj (fun m st=>∃ k:Nat,k+m=1∧(True)∧st=(⟨_,[(0,S s),(1,I p),(8,I k)],[]⟩:St)) (1) ⟨_,⟨0,by omega,trivial,J⟩,Gi []⟩ ?_
  rintro m_A _ ⟨k,hk_A,hp_A,rfl⟩
  have hkz:k=0∨k=1:=by omega
  have hb3:decide ((k:Int)<6)=true:=Gqb (by omega)
  refine Wz [40,12,81,72,1,12,25,45,57,6,76,27,4,95,17] ?_
  exact Xr J J J J (Gc [] J J J)
 obtain⟨q,rfl⟩:∃ q:Nat,p=q:=⟨p.toNat,by omega⟩
 have hb2:decide ((q:Int)<(s.size:Int))=true:=Gqb (by omega)
 rw[show decVar s q=dvGo s q 0 0 6 by rw[decVar,if_pos (by omega)]; rfl]
 refine Con.of Tryz.func291 J Tryz.ntmps291 J (fun E => ?_)
 refine Wz [4,95,91,32,46] ?_;refine Xj (fun m__ st=>∃ (k:Nat) (n:Nat),6-k=m__∧(k≤6∧q+k≤s.size∧(∀ a∈bytesL s q k,128≤a.toNat)∧n=dval (bytesL s q k)∧dvGo s q n k (6-k)=dvGo s q 0 0 6)∧st=(⟨_,[(0,S s),(1,I q),(7,I n),(8,I k)],[]⟩:St)) _ ⟨_,⟨0,0,J,⟨by omega,by omega,by simp[bytesL],by simp[bytesL,dval],J⟩,J⟩,Gi []⟩ ?_
 rintro m_A _ ⟨k,n,hk_A,hp_A,rfl⟩
 obtain⟨hk6,hqk,hall,hn,hgo⟩:=hp_A
 have hlen:(bytesL s q k).length=k:=by
  have:s.data.toList.length=s.size:=by simp
  simp[bytesL]; omega
 have hn1:=dval_lt (bytesL s q k)
 rw[←hn,hlen] at hn1
 obtain⟨M,hM,hM1,hM2⟩:=pow7 hk6
 have hMs:=pow7s k
 rw[hM] at hn1 hMs
 rw[←hgo]
 refine Wz [40,152,0,156,228,276] ?_;refine zx (Qt.grdT J J J (.hit (.hit (.hit .stop))) (fun hgrd=>Qr J J J J (by assumption))) J ?_;refine Wz [79,0,156,228] ?_;refine zx (Qt.grdT J J J (.hit (.hit .stop)) (fun hgrd=>Qs J J J J (by omega))) J ?_;refine zx (Qt.grdT J J J (.hit (.hit (.hit .stop))) (fun hgrd=>Qa J J J)) J ?_;refine zx (Qt.grdT J J J (.hit (.hit (.hit (.hit .stop)))) (fun hgrd=>Kd J J J)) J ?_;refine zx (Qt.grdT J J J (.hit (.hit (.hit (.hit (.hit .stop))))) (fun hgrd=>Kh J J J J)) J ?_;refine Wz [79,3] ?_
 refine Xb J (fun h => ?_) (fun h => ?_)
 ·simp only[Gqi,decide_eq_true_eq] at h
  have hlt:q+k<s.size:=by omega
  obtain⟨f,hf⟩:∃ f,6-k=f+1:=⟨5-k,by omega⟩
  obtain⟨b,hb,hcb⟩:=bytesL_succ hlt
  obtain⟨c,hc⟩:∃ c:Nat,b.toNat=c:=⟨_,rfl⟩
  rw[hc] at hcb
  have hcr:=Yq s (q+k)
  rw[hcb] at hcr
  have hc1:byteAt s ((q:Int)+(k:Int)).toNat=(c:Int):=by rw[←hcb]; congr 1
  obtain⟨d,hd⟩:∃ d:Nat,c%128=d:=⟨_,rfl⟩
  have hd1:(c:Int).toNat &&& (127:Int).toNat=d:=by
   rw[show (127:Int).toNat=2 ^ 7-1 from rfl,Gx8]
   exact hd
  obtain⟨r,hr⟩:∃ r:Nat,d*M=r:=⟨_,rfl⟩
  have hr2:r≤127*M:=by rw[←hr]; exact Gxz _ (by omega)
  have hr1:(d:Int)*2 ^ (7*(k:Int)).toNat=(r:Int):=by rw[pow7i,hM,←hr]; norm_cast
  have hor:(n:Int).toNat ||| (r:Int).toNat=n+r:=or_add hM hn1 hr
  have hval:n+r=dval (bytesL s q (k+1)):=by rw[hb,dval_snoc,hlen,hM,hc,hd,hr,←hn]
  have hgo1:dvGo s q n k (f+1)=if 128≤(c:Int) then dvGo s q ((n+r:Nat):Int) (k+1) f else if ((c:Int)=0∧0<k)∨1099511627775<((n+r:Nat):Int) then none else some (((n+r:Nat):Int),k+1):=by
   have h9:(n:Int)+(c:Int)%128*2 ^ (7*k)=((n+r:Nat):Int):=by
    rw[show (c:Int)%128=d by omega,←hr,←hM]
    norm_cast
   rw[dvGo,if_pos hlt,hcb,h9]
  rw[hf,hgo1]
  by_cases h7:128≤(c:Int)
  ·have hb7:decide ((c:Int)<128)=false:=Gqa (by omega)
   refine Wz [11,13,132,18,158,262,182,0,117,263,275,2,99,18,158,12,100] ?_
   refine⟨_,(by omega),_,⟨k+1,n+r,rfl,⟨by omega,by omega,by rw[hb]; intro a ha; rcases Gqp.1 ha with ha | ha; exact hall a ha; simp only[Gxf] at ha; rw[ha]; omega,hval,by rw[if_pos h7,show 6-(k+1)=f by omega]⟩,rfl⟩,Gi []⟩
  have hb7:decide ((c:Int)<128)=true:=Gqb (by omega)
  rw[if_neg h7]
  have hcan:=canon (b:=b) (by omega) (bytesL s q k) hall
  rw[←hb,←hval] at hcan
  have hle:=Y2 ((n+r:Nat):Int)
  have hex:=extract_bytes s q (k+1)
  have hnil:bytesL s q k = []↔k=0:=by rw[←List.length_eq_zero_iff,hlen]
  have hne:bytesL s q (k+1) ≠ []:=by rw[hb]; simp
  have hex1:s.extract ((q:Int)).toNat ((q:Int)+(k:Int)+1).toNat=bs (bytesL s q (k+1)):=by rw[←hex]; congr 1
  have hiff:bs (encVar ((n+r:Nat):Int))=bs (bytesL s q (k+1))↔¬(((c:Int)=0∧0<k)∨1099511627775<((n+r:Nat):Int)):=by
   rw[bs_inj,encVar]
   split
   ·rename_i h5
    rw[show (((n+r:Nat):Int)).toNat=n+r by omega,hcan,hnil]
    omega
   ·exact⟨fun e=>absurd e.symm hne,fun e=>by omega⟩
  by_cases h8:((c:Int)=0∧0<k)∨1099511627775<((n+r:Nat):Int)
  ·rw[if_pos h8]
   have hb8:decide (bs (encVar ((n+r:Nat):Int))≠s.extract ((q:Int)).toNat ((q:Int)+(k:Int)+1).toNat)=true:=Gqb (by rw[hex1]; exact fun e=>hiff.1 e h8)
   refine Wz [11,13,132,18,158,262,182,0,117,263,275,2,99,18,158,75,8,8] ?_;refine Xi u8_12 u8_13 u8_14 J (Vk (Qa J J J) J ?_);refine Vk (Qj J J (X6 ((n+r:Nat):Int)) J) J ?_;refine Wz [34,34,181,181,236,207,21,50,95,135,62,145,64] ?_
   exact Xr J J J J (Gc [] J J J)
  ·rw[if_neg h8]
   have hb8:decide (bs (encVar ((n+r:Nat):Int))≠s.extract ((q:Int)).toNat ((q:Int)+(k:Int)+1).toNat)=false:=Gqa (by rw[hex1]; exact fun e=>e (hiff.2 h8))
   refine Wz [11,13,132,18,158,262,182,0,117,263,275,2,99,18,158,75,8,8] ?_;refine Xi u8_12 u8_13 u8_14 J (Vk (Qa J J J) J ?_);refine Vk (Qj J J (X6 ((n+r:Nat):Int)) J) J ?_;refine Wz [34,34,181,181,236,207,21,41,13,18,95,135,69] ?_
   exact Xr J J J J (Gc [] J J J)
 ·simp only[Bool.and_true,Gxn,decide_eq_false_iff_not] at h
  rw[show dvGo s q n k (6-k)=none by
   cases hf:6-k with
   |zero=>rfl
   |succ f=>rw[dvGo,if_neg (by omega)]]
  refine Wz [27,4,95,17] ?_
  exact Xr J J J J (Gc [] J J J)
end
end Go.Proofs.YtoecjaohdnoenaaGreat
