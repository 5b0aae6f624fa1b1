/-
  Rules, data and contracts of functions: part 18 of the proof.
  Conditions: those that each theorem names.
-/
import Derived.Test.YtfklmiijhcajdaaGreatDDTellRowk16
set_option linter.unusedSimpArgs false
set_option linter.unusedVariables false
set_option maxRecDepth 8000
set_option maxHeartbeats 8000000
namespace Go.Proofs.YtfklmiijhcajdaaGreat
section
open Go.RowKit

def trackOk (t:TTrack):Bool:=decide ((t.Inputs.length:Int)≤400)&&inOk t.Inputs
def tracksOk (l:List TTrack):Bool:=(decide (1≤l.length)&&decide (l.length≤4))&&l.all trackOk
theorem tracks_no {l:List TTrack} (h:l.length<1∨4<l.length):tracksOk l=false:=by
 rw[tracksOk]
 rcases h with h | h
 ·rw[Gqa (by omega:¬1≤l.length)]; rfl
 ·rw[Gqa (by omega:¬l.length≤4),Bool.and_false]; rfl
theorem tracks_bad {l:List TTrack} (h:l.all trackOk=false):tracksOk l=false:=by rw[tracksOk,h,Bool.and_false]
theorem tracks_yes {l:List TTrack} (h1:1≤l.length) (h2:l.length≤4) (h:l.all trackOk=true):tracksOk l=true:=by rw[tracksOk,h,Gqb h1,Gqb h2]; rfl
theorem Ks {l:List TTrack} (h:tracksOk l=true):1≤l.length∧l.length≤4:=by
 simp only[tracksOk,Gqi,decide_eq_true_eq] at h
 exact h.1
def lenAt (l:List TTrack) (k:Nat):Nat:=(l.getD k ⟨[]⟩).Inputs.length
def leastK (l:List TTrack):Nat→Nat
 |0=>lenAt l 0
 |k+1=>min (leastK l k) (lenAt l k)
def knownTicks (l:List TTrack):Nat:=if tracksOk l=true then leastK l l.length else 0
theorem lenAt_is {l:List TTrack} {k:Nat} (h:k<l.length):lenAt l k=l[k].Inputs.length:=by simp[lenAt,Gqg,h]
theorem least_0 (l:List TTrack):leastK l 0=lenAt l 0:=rfl
theorem least_1 (l:List TTrack):leastK l 1=lenAt l 0:=Nat.min_self _
def faultOk (f:TFault) (n:Int):Bool:=((inR f.Tick 0 400&&decide (0≤f.Player))&&decide (f.Player<n))&&inR f.Add 0 9
theorem fault_S (f:TFault) (n:Int):(((decide (0<n)&&inR f.Tick 0 400)&&inR f.Player 0 (n-1))&&inR f.Add 0 9)=faultOk f n:=by
 rw[faultOk,Bool.eq_iff_iff]
 simp only[Gqi,decide_eq_true_eq,Yx]
 omega
def PeerP (p:TPeer):Prop :=
 (tracksOk p.Tracks=true∧worldOk p.Base=true∧worldOk p.Now=true∧p.Base.Level=p.Now.Level) ∧
 (p.Base.Scores.length=p.Tracks.length∧p.Now.Scores.length=p.Tracks.length∧faultOk p.Fault p.Tracks.length=true) ∧
 ((0≤p.Me∧p.Me≤(p.Tracks.length:Int)-1)∧(0≤p.Delay∧p.Delay≤5)∧(1≤p.Ahead∧p.Ahead≤8)) ∧
 ((0≤p.Seed∧p.Seed≤65535)∧(0≤p.Rolls∧p.Rolls≤1000000)∧(0≤p.Again∧p.Again≤1000000)) ∧
 ((0≤p.Now.Tick-p.Base.Tick∧p.Now.Tick-p.Base.Tick≤p.Ahead)∧(p.Used.length:Int)=p.Now.Tick-p.Base.Tick∧(p.Saves.length:Int)=p.Now.Tick-p.Base.Tick) ∧
 ((p.Used.all fun row=>rowOk row p.Tracks.length)=true∧∀ k (h:k<p.Saves.length),p.Saves[k].Tick=p.Base.Tick+k) ∧
 p.Base.Tick≤knownTicks p.Tracks∧p.Now.Tick≤lenAt p.Tracks p.Me.toNat∧(p.Sums.length:Int)=p.Base.Tick+1
noncomputable def peerOk (p:TPeer):Bool:=@decide (PeerP p) (Classical.propDecidable _)
theorem peer_T {p:TPeer} (h:PeerP p):peerOk p=true:=@decide_eq_true _ (Classical.propDecidable _) h
theorem peer_F {p:TPeer} (h:¬PeerP p):peerOk p=false:=@decide_eq_false _ (Classical.propDecidable _) h
theorem Zl {p:TPeer} (h:peerOk p=true):PeerP p:=@of_decide_eq_true _ (Classical.propDecidable _) h
end
section
open Go.RowKit

def varN (n:Nat):List UInt8:=if n<128 then [UInt8.ofNat n] else UInt8.ofNat (n%128+128)::varN (n/128)
termination_by n
decreasing_by omega
def encVar (n:Int):List UInt8:=if 0≤n∧n≤1099511627775 then varN n.toNat else []
theorem varN_small {n:Nat} (h:n<128):varN n = [UInt8.ofNat n]:=by rw[varN,if_pos h]
theorem varN_big {n:Nat} (h:¬n<128):varN n=UInt8.ofNat (n%128+128)::varN (n/128):=by rw[varN,if_neg h]
theorem varN_step {acc:List UInt8} {m:Nat} {l:List UInt8} (h:acc++varN m=l) (hm:¬m<128) {x:UInt8} (hx:x=UInt8.ofNat (m%128+128)):(acc ++ [x])++varN (m/128)=l:=by
 rw[←h,varN_big hm,hx]; simp
theorem varN_end {acc:List UInt8} {m:Nat} {l:List UInt8} (h:acc++varN m=l) (hm:m<128) {x:UInt8} (hx:x=UInt8.ofNat m):acc ++ [x]=l:=by
 rw[←h,varN_small hm,hx]

theorem Xm (n:Int):Con Tryz.prog 206 [] [ai n] [] (S (bs (encVar n))):=by
 refine Con.of Tryz.func206 J Tryz.ntmps206 J (fun E => ?_)
 refine Wz [125,153,0,109,230,51] ?_
 refine Xb J (fun h => ?_) (fun h => ?_)
 ·simp only[Gqr,decide_eq_true_eq] at h
  refine Wz [39] ?_
  exact Xl J J (X1 [] Aqc J J (S_eq (by rw[encVar,if_neg Aqa])))
 simp only[Gql,decide_eq_false_iff_not] at h
 have he:encVar n=varN n.toNat:=by rw[encVar,if_pos Aqa]
 rw[he]
 refine Wz [15,12,205] ?_
 refine AWP.pre ?_ (W_nil 3 1 J)
 refine Xh (fun m__ st=>∃ (m:Nat) (acc:List UInt8),m=m__∧(acc++varN m=varN n.toNat∧acc.length+m≤1099511627775)∧st=(⟨_,[(0,I m),(3,Aqg 0)],[.row 1 (bE acc)]⟩:St)) _ ⟨(fun (m:Nat) (acc:List UInt8)=>(⟨_,[(0,I m),(3,Aqg 0)],[.row 1 (bE acc)]⟩:St)) (n.toNat) ([]),⟨n.toNat,[],J,⟨J,by simp <;> omega⟩,J⟩,X4 [0] Aqc J Aqb (.cons (Xq Aqa) (.c J (.nil)))⟩ ?_
 rintro m_A _ ⟨m,acc,hk_A,hp_A,rfl⟩
 refine Wz [56,207,6] ?_
 refine Xb J (fun h5 => ?_) (fun h5 => ?_)
 ·have h5:¬m<128:=by have:=Gqc h5; omega
  have hl:=Yc acc
  refine Wz [15,178,9,170,18,174,138,211,2,94,171,32,85,50] ?_
  refine⟨_, Aqa,(fun (m:Nat) (acc:List UInt8)=>(⟨_,[(0,I m),(3,Aqg 0)],[.row 1 (bE acc)]⟩:St)) (m/128) (acc ++ [UInt8.ofNat ((m:Int)%128+128).toNat]),⟨m/128,acc ++ [UInt8.ofNat ((m:Int)%128+128).toNat],J,⟨varN_step hp_A.1 h5 (by congr 1 <;> omega),by have:=hp_A.2; simp <;> omega⟩,J⟩,X4 [0] Aqc J (Kj (bE_snoc _ _ Aqa).symm) (.cons (Xq Aqa) (.c J (.nil)))⟩
 ·have h5:m<128:=by have:=Gqd h5; omega
  have hl:=Yc acc
  have hb:=hp_A.2
  refine Wz [20,9,174,138,211,40,248,53] ?_
  exact Xl J J (X1 [] Aqc J J (S_eq (congrArg bs (varN_end hp_A.1 h5 (by congr 1)))))
theorem Xy (n:Int):Con Tryz.prog 294 [] [ai n] [] (S (bs (encVar n))):=by
 refine Con.of Tryz.func294 J Tryz.ntmps294 J (fun E => ?_)
 refine Wz [125] ?_;refine zx (Qj J J (X0 n 0 1099511627775) J) J ?_;refine Wz [5,6] ?_
 refine Xb J (fun h => ?_) (fun h => ?_)
 ·have h:¬(0≤n∧n≤1099511627775):=by rw[←Yx]; simpa using h
  refine Wz [39] ?_
  exact Xl J J (X1 [] Aqc J J (S_eq (by rw[encVar,if_neg h])))
 have h:0≤n∧n≤1099511627775:=by rw[←Yx]; simpa using h
 have he:encVar n=varN n.toNat:=by rw[encVar,if_pos h]
 rw[he]
 refine Wz [15,3,161,2,205] ?_
 refine Xh (fun m__ st=>∃ (m:Nat) (acc:List UInt8),m=m__∧(acc++varN m=varN n.toNat∧acc.length+m≤1099511627775)∧st=(⟨_,[(0,I m),(3,Aqg 0)],[.row 1 (bE acc)]⟩:St)) _ ⟨(fun (m:Nat) (acc:List UInt8)=>(⟨_,[(0,I m),(3,Aqg 0)],[.row 1 (bE acc)]⟩:St)) (n.toNat) ([]),⟨n.toNat,[],J,⟨J,by simp <;> omega⟩,J⟩,X4 [0] Aqc J Aqb (.cons (Xq Aqa) (.c J (.nil)))⟩ ?_
 rintro m_A _ ⟨m,acc,hk_A,hp_A,rfl⟩
 refine Wz [56,206,6] ?_
 refine Xb J (fun h5 => ?_) (fun h5 => ?_)
 ·have h5:¬m<128:=by have:=Gqc h5; omega
  have hl:=Yc acc
  have hb:=hp_A.2
  have hb1:(m:Int).toNat &&& (127:Int).toNat=m%128:=Nat.and_two_pow_sub_one_eq_mod m 7
  have hb2:((m%128:Nat):Int).toNat ||| (128:Int).toNat=m%128+128:=by
   have:=Nat.two_pow_add_eq_or_of_lt (i:=7) (b:=m%128) Aqa 1
   rw[Nat.or_comm]
   show 128 ||| m%128=_
   rw[←this]; omega
  have hb3:(m:Int)/2 ^ (7:Int).toNat=(m/128:Nat):=by
   show (m:Int)/128=_
   omega
  refine Wz [15,178,9] ?_;refine zx (q_bandK J J J J Aqe Aqa) J (zx (q_borK J J J J Aqe Aqa) J ?_);refine Wz [174,138,211,2,94] ?_;refine zx (q_shrK J J J J Aqe ⟨Aqa,Aqa,Aqc⟩) J ?_;refine Wz [32,85,50] ?_
  refine⟨_, Aqa,(fun (m:Nat) (acc:List UInt8)=>(⟨_,[(0,I m),(3,Aqg 0)],[.row 1 (bE acc)]⟩:St)) (m/128) (acc ++ [UInt8.ofNat ((m%128+128:Nat):Int).toNat]),⟨m/128,acc ++ [UInt8.ofNat ((m%128+128:Nat):Int).toNat],J,⟨varN_step hp_A.1 h5 (by congr 1),by simp <;> omega⟩,J⟩,X4 [0] Aqc J (Kj (bE_snoc _ _ Aqa).symm) (.c J (.c J (.nil)))⟩
 ·have h5:m<128:=by have:=Gqd h5; omega
  have hl:=Yc acc
  have hb:=hp_A.2
  refine Wz [20,9,174,138,211,248,53] ?_
  exact Xl J J (X1 [] Aqc J J (S_eq (congrArg bs (varN_end hp_A.1 h5 (by congr 1)))))

theorem varN_pow:∀ (j n:Nat),n<128 ^ (j+1)→(varN n).length≤j+1
 |0,n,h=>by rw[varN_small Aqa]; simp
 | j+1,n,h=>by
  by_cases hn:n<128
  ·rw[varN_small hn]; simp
  ·rw[varN_big hn,Gq3]
   have:=varN_pow j (n/128) (by rw[Nat.pow_succ] at h; omega)
   omega
theorem Ym (n:Int):(encVar n).length≤6:=by
 unfold encVar
 split
 ·exact varN_pow 5 _ Aqa 
 ·simp
def signless (n:Int):Int:=if -549755813888≤n∧n≤549755813887 then (if 0≤n then 2*n else -2*n-1) else -1
theorem I_Signless (n:Int) (hn:I64 n):Con Tryz.prog 207 [] [ai n] [] (I (signless n)):=by
 obtain⟨hn1,hn2⟩:=hn
 refine Con.of Tryz.func207 J Tryz.ntmps207 J (fun E => ?_)
 refine Wz [125,153,0,109,230,51] ?_
 refine Xb J (fun h => ?_) (fun h => ?_)
 ·simp only[Gqr,decide_eq_true_eq] at h
  refine Wz [39] ?_
  exact Xl J J (X1 [] Aqc J J (Xq (by rw[signless,if_neg Aqa])))
 simp only[Gql,decide_eq_false_iff_not] at h
 refine Wz [15,56,207,6] ?_
 refine Xb J (fun h1 => ?_) (fun h1 => ?_)
 ·have h1:=Gqc h1
  refine Wz [10,155,2,135,69] ?_
  exact Xl J J (X1 [] Aqc J J (Xq (by rw[signless,if_pos Aqa,if_pos Aqa])))
 ·have h1:=Gqd h1
  refine Wz [15,10,155,84,53] ?_
  exact Xl J J (X1 [] Aqc J J (Xq (by rw[signless,if_pos Aqa,if_neg Aqa])))
theorem S_Signless (n:Int) (hn:I64 n):Con Tryz.prog 295 [] [ai n] [] (I (signless n)):=by
 obtain⟨hn1,hn2⟩:=hn
 refine Con.of Tryz.func295 J Tryz.ntmps295 J (fun E => ?_)
 refine Wz [125] ?_;refine zx (Qj J J (X0 n (-549755813888) 549755813887) J) J ?_;refine Wz [5,6] ?_
 refine Xb J (fun h => ?_) (fun h => ?_)
 ·have h:¬(-549755813888≤n∧n≤549755813887):=by rw[←Yx]; simpa using h
  refine Wz [39] ?_
  exact Xl J J (X1 [] Aqc J J (Xq (by rw[signless,if_neg Aqa])))
 have h : -549755813888≤n∧n≤549755813887:=by rw[←Yx]; simpa using h
 refine Wz [15,56,207,6] ?_
 refine Xb J (fun h1 => ?_) (fun h1 => ?_)
 ·have h1:=Gqc h1
  refine Wz [10,155,2,135,69] ?_
  exact Xl J J (X1 [] Aqc J J (Xq (by rw[signless,if_pos Aqa,if_pos Aqa])))
 ·have h1:=Gqd h1
  refine Wz [15,10,155,84,53] ?_
  exact Xl J J (X1 [] Aqc J J (Xq (by rw[signless,if_pos Aqa,if_neg Aqa])))
def packText (s:ByteArray):ByteArray:=bs (encVar s.size)++s
theorem packText_size (s:ByteArray):(packText s).size≤s.size+6:=by
 unfold packText
 rw[Yf,Ye]
 have:=Ym s.size
 omega
theorem I_PackText (s:ByteArray) (hs:s.size≤1099511627776):Con Tryz.prog 240 [] [astr s] [] (S (packText s)):=by
 have h1:=Ye (encVar s.size)
 have h2:=Ym s.size
 refine Con.of Tryz.func240 J Tryz.ntmps240 J (fun E => ?_)
 refine Wz [12,10,116] ?_;refine zx (Qj J J (Xm s.size) J) J ?_;refine Wz [0,233,53] ?_
 exact Xl J J (X1 [] Aqc J J J)
theorem S_PackText (s:ByteArray) (hs:s.size≤1099511627776):Con Tryz.prog 219 [] [astr s] [] (S (packText s)):=by
 have h1:=Ye (encVar s.size)
 have h2:=Ym s.size
 refine Con.of Tryz.func219 J Tryz.ntmps219 J (fun E => ?_)
 refine Wz [12,10,116] ?_;refine zx (Qj J J (Xy s.size) J) J ?_;refine Wz [0,233,53] ?_
 exact Xl J J (X1 [] Aqc J J J)
def packK (xs:List Int) (k:Nat):List UInt8:=encVar xs.length++(xs.take k).flatMap fun x=>encVar (signless x)
def packInts (xs:List Int):ByteArray:=if xs.all (fun x=>decide (0≤signless x)) then bs (packK xs xs.length) else bs []
theorem packK_succ {xs:List Int} {k:Nat} (h:k<xs.length):packK xs (k+1)=packK xs k++encVar (signless xs[k]):=by
 unfold packK
 rw[Gxk h,List.flatMap_append,Gq5]
 simp
theorem packK_len (xs:List Int):∀ k,k≤xs.length→(packK xs k).length≤6*k+6
 |0,_=>by simp[packK]; exact Ym _
 |k+1,h=>by
  rw[packK_succ Aqa,Gqp]
  have:=packK_len xs k Aqa 
  have:=Ym (signless xs[k])
  omega
theorem Ze (xs:List Int):(packInts xs).size≤6*xs.length+6:=by
 unfold packInts
 split
 ·rw[Ye]; exact packK_len xs _ (Gqk _)
 ·rw[Ye]; simp
theorem I_PackInts (xs:List Int) (hg:Enc.gd xs) (hL:xs.length≤1073741824):Con Tryz.prog 109 [] [al xs] [] (S (packInts xs)):=by
 have hlx:=Yi xs
 have h1:=Ye (encVar (els xs).length)
 have h2:=Ym (els xs).length
 refine Con.of Tryz.func109 J Tryz.ntmps109 J (fun E => ?_)
 refine Wz [12,10,14] ?_;refine zx (Qj J J (Xm (els xs).length) J) J ?_;refine Wz [274,73,117,97] ?_
 refine Xh (fun m st=>∃ k:Nat,k+m=xs.length∧((xs.take k).all (fun x=>decide (0≤signless x))=true)∧st=(⟨_,[(3,Aqg 0),(11,L xs),(12,I (els xs).length),(13,I k)],[.row 1 (bE (packK xs k))]⟩:St)) (xs.length) ⟨(fun k:Nat=>(⟨_,[(3,Aqg 0),(11,L xs),(12,I (els xs).length),(13,I k)],[.row 1 (bE (packK xs k))]⟩:St)) 0,⟨0,Aqa,Aqd,J⟩,X4 [0] Aqc J (Kj (by rw[bs_list,hlx]; simp[packK])) (.c J (.c J (.c J (.c J (.nil)))))⟩ ?_
 rintro m_A _ ⟨k,hk_A,hp_A,rfl⟩
 refine Wz [3,38,17] ?_
 refine Xb J (fun h => ?_) (fun h => ?_)
 ·have h3:k<xs.length:=by have:=Gqc h; omega
  have hat:=Yg h3
  have hb1:=Yc (packK xs k)
  have hb2:=packK_len xs k Aqa 
  have hb3:=Ye (encVar (signless xs[k]))
  have hb4:=Ym (signless xs[k])
  refine Wz [7,3,80,40] ?_;refine zx (Qj J J (I_Signless xs[k] (hg.2 _ (Gqe h3))) J) J ?_;refine Wz [73,38] ?_
  refine Xb J (fun h4 => ?_) (fun h4 => ?_)
  ·refine Wz [77,103,197,197] ?_
   refine Wz [172,69] ?_
   exact Xl J J (X1 [] Aqc J J (S_eq (by rw[packInts,X9 h3 (by simpa using h4)]; rfl)))
  ·refine Wz [15,63] ?_
   refine zx (Qj J J (Xm (signless xs[k])) J) J ?_;refine Wz [275,32,85,50,57,18,0,6] ?_
   exact⟨xs.length-(k+1),Aqa,_,⟨k+1,Aqa,X8 hp_A h3 (by simpa using h4),J⟩,(by rw[bs_list,bE_app,packK_succ h3]; exact X3 [0] Aqb)⟩
 ·have h3:¬((k:Int)<(els xs).length):=Gqd h
  have hk:k=xs.length:=Aqa
  refine Wz [20,10,248,53] ?_
  exact Xl J J (X1 [] Aqc J J (S_eq (by rw[packInts,X7 hp_A Aqa,hk]; rfl)))
theorem S_PackInts (xs:List Int) (hg:Enc.gd xs) (hL:xs.length≤1073741824):Con Tryz.prog 218 [] [al xs] [] (S (packInts xs)):=by
 have hlx:=Yi xs
 refine Con.of Tryz.func218 J Tryz.ntmps218 J (fun E => ?_)
 refine Wz [12,10,14] ?_;refine zx (Qj J J (Xy (els xs).length) J) J ?_;refine Wz [2,11] ?_
 refine Xh (fun m st=>∃ k:Nat,k+m=xs.length∧((xs.take k).all (fun x=>decide (0≤signless x))=true)∧st=(⟨_,[(0,L xs),(3,S (bs (packK xs k))),(4,I k)],[]⟩:St)) (xs.length) ⟨(fun k:Nat=>(⟨_,[(0,L xs),(3,S (bs (packK xs k))),(4,I k)],[]⟩:St)) 0,⟨0,Aqa,Aqd,J⟩,X4 [] Aqc J Aqb (.c J (.cons (S_eq (by rw[hlx]; simp[packK])) (.c J (.nil))))⟩ ?_
 rintro m_A _ ⟨k,hk_A,hp_A,rfl⟩
 refine Wz [59] ?_
 refine Xb J (fun h => ?_) (fun h => ?_)
 ·have h3:k<xs.length:=by have:=Gqc h; omega
  have hat:=Yg h3
  have hb1:=Ye (packK xs k)
  have hb2:=packK_len xs k Aqa 
  have hb3:=Ye (encVar (signless xs[k]))
  have hb4:=Ym (signless xs[k])
  have hc:=S_Signless xs[k] (hg.2 _ (Gqe h3))
  refine Wz [7,43,80] ?_;refine zx (Qj J J (hc) J) J ?_;refine Wz [38] ?_
  refine Xb J (fun h4 => ?_) (fun h4 => ?_)
  ·refine Wz [77,103,197,197] ?_
   refine Wz [172,69] ?_
   exact Xl J J (X1 [] Aqc J J (S_eq (by rw[packInts,X9 h3 (by simpa using h4)]; rfl)))
  ·refine Wz [15,63,0] ?_
   refine Wz [80] ?_;refine zx (Qj J J (hc) J) J ?_;refine zx (Qj J J (Xy (signless xs[k])) J) J ?_;refine Wz [233,87] ?_
   exact⟨xs.length-(k+1),Aqa,(fun k:Nat=>(⟨_,[(0,L xs),(3,S (bs (packK xs k))),(4,I k)],[]⟩:St)) (k+1),⟨k+1,Aqa,X8 hp_A h3 (by simpa using h4),J⟩,X4 [] Aqc J Aqb (.c J (.cons (S_eq (by rw[bs_app,packK_succ h3])) (.c J (.nil))))⟩
 ·have h3:¬((k:Int)<(els xs).length):=Gqd h
  have hk:k=xs.length:=Aqa
  refine Wz [31] ?_
  exact Xl J J (X1 [] Aqc J J (S_eq (by rw[packInts,X7 hp_A Aqa,hk]; rfl)))

def sumA (s:ByteArray):Nat→Int
 |0=>0
 |k+1=>(sumA s k+byteAt s k)%65521
def sumB (s:ByteArray):Nat→Int
 |0=>0
 |k+1=>(sumB s k+byteAt s k*(((k:Int)+1)%65521))%65521
def checksum (s:ByteArray):Int:=sumA s s.size+65536*sumB s s.size
theorem sumA_lt (s:ByteArray):∀ k,0≤sumA s k∧sumA s k<65521
 |0=>by simp[sumA]
 |k+1=>by simp only[sumA]; omega
theorem sumB_lt (s:ByteArray):∀ k,0≤sumB s k∧sumB s k<65521
 |0=>by simp[sumB]
 |k+1=>by simp only[sumB]; omega
theorem checksum_lt (s:ByteArray):0≤checksum s∧checksum s<4294967296:=by
 have:=sumA_lt s s.size
 have:=sumB_lt s s.size
 unfold checksum
 omega
theorem I_Checksum (s:ByteArray) (hs:s.size≤1099511627776):Con Tryz.prog 301 [] [astr s] [] (I (checksum s)):=by
 refine Con.of Tryz.func301 J Tryz.ntmps301 J (fun E => ?_)
 refine Wz [12,12,12,11] ?_;refine Xh (fun m st=>∃ k:Nat,k+m=s.size∧(True)∧st=(⟨_,[(0,S s),(3,I (sumA s k)),(4,I (sumB s k)),(5,I k)],[]⟩:St)) (s.size) ⟨_,⟨0,Aqa,trivial,J⟩,X3 [] Aqb⟩ ?_
 rintro m_A _ ⟨k,hk_A,hp_A,rfl⟩
 refine Wz [43,116,38] ?_
 refine Xb J (fun h => ?_) (fun h => ?_)
 ·have h3:k<s.size:=by have:=Gqc h; omega
  have hb1:=sumA_lt s k
  have hb2:=sumB_lt s k
  obtain⟨t,ht⟩:∃ t,byteAt s (k:Int).toNat=t:=⟨_,rfl⟩
  have htb:0≤t∧t≤255:=ht▸byteAt_lt _ _
  have hmul:0≤t*(((k:Int)+1)%65521)∧t*(((k:Int)+1)%65521)≤255*65520:=by
   have h5:0≤((k:Int)+1)%65521∧((k:Int)+1)%65521≤65520:=Aqa
   exact⟨Int.mul_nonneg htb.1 h5.1,Int.mul_le_mul htb.2 h5.2 h5.1 Aqa⟩
  have e1:sumA s (k+1)=(sumA s k+t)%65521:=by rw[sumA,←ht]; rfl
  have e2:sumB s (k+1)=(sumB s k+t*(((k:Int)+1)%65521))%65521:=by rw[sumB,←ht]; rfl
  refine Wz [7,169,208,249,18,170,2,63,0,208,249,0,18,170,155,18,170,87] ?_
  exact⟨s.size-(k+1),Aqa,(fun k:Nat=>(⟨_,[(0,S s),(3,I (sumA s k)),(4,I (sumB s k)),(5,I k)],[]⟩:St)) (k+1),⟨k+1,Aqa,trivial,J⟩,X4 [] Aqc J Aqb (.c J (.cons (Xq e1.symm) (.cons (Xq e2.symm) (.c J (.nil)))))⟩
 ·have h3:¬((k:Int)<s.size):=Gqd h
  have hk:k=s.size:=Aqa
  have hb1:=sumA_lt s k
  have hb2:=sumB_lt s k
  refine Wz [20,9,155,276,49] ?_
  exact Xl J J (X1 [] Aqc J J (Xq (by rw[checksum,hk])))
theorem S_Checksum (s:ByteArray) (hs:s.size≤1099511627776):Con Tryz.prog 292 [] [astr s] [] (I (checksum s)):=by
 refine Con.of Tryz.func292 J Tryz.ntmps292 J (fun E => ?_)
 refine Wz [12,12,12,11] ?_;refine Xh (fun m st=>∃ k:Nat,k+m=s.size∧(True)∧st=(⟨_,[(0,S s),(3,I (sumA s k)),(4,I (sumB s k)),(5,I k)],[]⟩:St)) (s.size) ⟨_,⟨0,Aqa,trivial,J⟩,X3 [] Aqb⟩ ?_
 rintro m_A _ ⟨k,hk_A,hp_A,rfl⟩
 refine Wz [43,116,38] ?_
 refine Xb J (fun h => ?_) (fun h => ?_)
 ·have h3:k<s.size:=by have:=Gqc h; omega
  have hb1:=sumA_lt s k
  have hb2:=sumB_lt s k
  obtain⟨t,ht⟩:∃ t,byteAt s (k:Int).toNat=t:=⟨_,rfl⟩
  have htb:0≤t∧t≤255:=ht▸byteAt_lt _ _
  have hmul:0≤t*(((k:Int)+1)%65521)∧t*(((k:Int)+1)%65521)≤255*65520:=by
   have h5:0≤((k:Int)+1)%65521∧((k:Int)+1)%65521≤65520:=Aqa
   exact⟨Int.mul_nonneg htb.1 h5.1,Int.mul_le_mul htb.2 h5.2 h5.1 Aqa⟩
  have e1:sumA s (k+1)=(sumA s k+t)%65521:=by rw[sumA,←ht]; rfl
  have e2:sumB s (k+1)=(sumB s k+t*(((k:Int)+1)%65521))%65521:=by rw[sumB,←ht]; rfl
  refine Wz [7,169,208,249,18,170,2,63,0,208,249,0,18,170,155,18,170,87] ?_
  exact⟨s.size-(k+1),Aqa,(fun k:Nat=>(⟨_,[(0,S s),(3,I (sumA s k)),(4,I (sumB s k)),(5,I k)],[]⟩:St)) (k+1),⟨k+1,Aqa,trivial,J⟩,X4 [] Aqc J Aqb (.c J (.cons (Xq e1.symm) (.cons (Xq e2.symm) (.c J (.nil)))))⟩
 ·have h3:¬((k:Int)<s.size):=Gqd h
  have hk:k=s.size:=Aqa
  have hb1:=sumA_lt s k
  have hb2:=sumB_lt s k
  refine Wz [20,9,155,276,49] ?_
  exact Xl J J (X1 [] Aqc J J (Xq (by rw[checksum,hk])))

def seal4 (x:Int):List UInt8 := [UInt8.ofNat (x%256).toNat,UInt8.ofNat (x/256%256).toNat,UInt8.ofNat (x/65536%256).toNat,UInt8.ofNat (x/16777216%256).toNat]
def sealText (s:ByteArray):ByteArray:=bs (seal4 (checksum s))++s
theorem sealText_size (s:ByteArray):(sealText s).size=s.size+4:=by
 unfold sealText
 rw[Yf,Ye]
 simp[seal4]
 omega
theorem I_SealText (s:ByteArray) (hs:s.size≤1099511627776):Con Tryz.prog 239 [] [astr s] [] (S (sealText s)):=by
 obtain⟨x,hx⟩:∃ x,checksum s=x:=⟨_,rfl⟩
 have h1:=checksum_lt s
 have hc:=I_Checksum s hs
 rw[hx] at h1 hc
 refine Con.of Tryz.func239 J Tryz.ntmps239 J (fun E => ?_)
 refine Wz [12,10] ?_;refine zx (Qj J J (hc) J) J ?_;refine Wz [40,170,40,171,40,170,174,0,171,174,0,170,174,0,171,174,138,40,266,0] ?_
 refine M0 (q_cat J J J J (by simp only[Ye,Yf,Gq3,List.length_nil,Gqp]; omega)) J J ?_
 refine Wz [53] ?_
 exact Xl J J (X1 [] Aqc J J (S_eq (by
  rw[sealText,hx,seal4]
  have e1:x%65536%256=x%256:=Aqa
  have e2:x%65536/256=x/256%256:=Aqa
  have e3:x/65536/256=x/16777216%256:=Aqa
  rw[e1,e2,e3])))
theorem S_SealText (s:ByteArray) (hs:s.size≤1099511627776):Con Tryz.prog 221 [] [astr s] [] (S (sealText s)):=by
 obtain⟨x,hx⟩:∃ x,checksum s=x:=⟨_,rfl⟩
 have h1:=checksum_lt s
 have hc:=S_Checksum s hs
 rw[hx] at h1 hc
 have f1:x/2 ^ (8:Int).toNat=x/256:=rfl
 have f2:x/2 ^ (16:Int).toNat=x/65536:=rfl
 have f3:x/2 ^ (24:Int).toNat=x/16777216:=rfl
 refine Con.of Tryz.func221 J Tryz.ntmps221 J (fun E => ?_)
 refine Wz [12,10] ?_;refine zx (Qj J J (hc) J) J ?_;refine Wz [40,277,0] ?_;refine zx (q_shrK J J J J Aqe ⟨Aqa,Aqa,Aqc⟩) J ?_;refine Wz [277,0] ?_;refine zx (q_shrK J J J J Aqe ⟨Aqa,Aqa,Aqc⟩) J ?_;refine Wz [277,0] ?_;refine zx (q_shrK J J J J Aqe ⟨Aqa,Aqa,Aqc⟩) J ?_;refine Wz [174,138,266,0] ?_
 refine M0 (q_cat J J J J (by simp only[Ye,Yf,Gq3,List.length_nil,Gqp]; omega)) J J ?_
 refine Wz [53] ?_
 exact Xl J J (X1 [] Aqc J J (S_eq (by
  rw[sealText,hx,seal4]
  have e3:x/16777216%256=x/16777216:=Aqa
  rw[e3])))
end
section
open Go.RowKit

def packRuns (xs:List Int):List UInt8:=match xs with
 | [] => []
 |x::r=>encVar (x+16*((r.takeWhile (· == x)).length+1:Nat))++packRuns (r.drop (r.takeWhile (· == x)).length)
termination_by xs.length
decreasing_by simp; omega
theorem tw_len {xs:List Int} {x:Int}:∀ {n:Nat},(∀ j,j<n→xs[j]? = some x)→(∀ y,xs[n]? = some y→y≠x)→(xs.takeWhile (· == x)).length=n:=by
 induction xs with
 |nil =>
  intro n h1 h2
  cases n with
  |zero=>rfl
  |succ n=>have:=h1 0 Aqa; simp at this
 | cons a xs ih =>
  intro n h1 h2
  cases n with
  |zero =>
   have:=h2 a Aqd 
   rw[List.takeWhile_cons]
   simp[this]
  |succ n =>
   have h0:=h1 0 Aqa 
   simp at h0
   subst h0
   rw[List.takeWhile_cons]
   simp
   exact ih (fun j hj=>by have:=h1 (j+1) Aqa; simpa using this) fun y hy=>h2 y (by simpa using hy)
theorem runs_step {xs:List Int} {s i:Nat} (hs:s<i) (hl:s<xs.length) (hi:i≤xs.length) (hall:∀ j,s≤j→j<i→xs[j]? = some xs[s]) (hstop:∀ y,xs[i]? = some y→y≠xs[s]):packRuns (xs.drop s)=encVar (xs[s]+16*((i:Int)-(s:Int)))++packRuns (xs.drop i):=by
 rw[Gxm hl,packRuns]
 have h1:((xs.drop (s+1)).takeWhile (· == xs[s])).length=i-(s+1):=tw_len (fun j hj=>by rw[Gxh]; exact hall _ Aqa Aqa) fun y hy=>by rw[Gxh,show s+1+(i-(s+1))=i by omega] at hy; exact hstop y hy
 rw[h1,List.drop_drop,show s+1+(i-(s+1))=i by omega,show ((i-(s+1)+1:Nat):Int)=(i:Int)-s by omega]
theorem run_next {xs:List Int} {i j:Nat} {x:Int} (h:∀ q,i≤q→q<j→xs[q]? = some x) (hj:j<xs.length) (he:xs[j]=x):∀ q,i≤q→q<j+1→xs[q]? = some x:=fun q h1 h2=>by
 rcases Gqq q j with h3 | h3
 ·exact h q h1 h3
 ·have:q=j:=Aqa
  subst this
  rw[Gqf hj,he]
def packTrack (xs:List Int):ByteArray:=if xs.length≤400∧inOk xs=true then bs (packRuns xs) else bs []
theorem packRuns_len (n:Nat):∀ xs:List Int,xs.length≤n→(packRuns xs).length≤6*n:=by
 induction n with
 |zero=>intro xs h; have:=List.eq_nil_of_length_eq_zero (by omega:xs.length=0); subst this; simp[packRuns]
 | succ n ih =>
  intro xs h
  cases xs with
  |nil=>simp[packRuns]
  |cons x r =>
   rw[packRuns,Gqp]
   have h1:=Ym (x+16*((r.takeWhile (· == x)).length+1:Nat))
   have h2:=ih (r.drop (r.takeWhile (· == x)).length) (by simp at h ⊢; omega)
   omega
theorem Zf (xs:List Int):(packTrack xs).size≤2400:=by
 unfold packTrack
 split
 ·rename_i h
  rw[Ye]
  have:=packRuns_len 400 xs h.1
  omega
 ·rw[Ye]; simp
theorem inOk_at {xs:List Int} (h:inOk xs=true) {k:Nat} (hk:k<xs.length):0≤xs[k]∧xs[k]≤15:=Yx.1 (Gqn.1 h _ (Gqe hk))

theorem S_inputsOk (xs:List Int) (hn:Enc.gd xs):Con Tryz.prog 249 [] [al xs] [] (B (inOk xs)):=by
 have hn1:=hn.1
 have hlx:=Yi xs
 refine Con.of Tryz.func249 J Tryz.ntmps249 J (fun E => ?_)
 refine Wz [12,11] ?_;refine Xh (fun m st=>∃ k:Nat,k+m=xs.length∧((xs.take k).all (fun n=>inR n 0 15)=true)∧st=(⟨_,[(0,L xs),(3,I k)],[]⟩:St)) (xs.length) ⟨_,⟨0,Aqa,Aqd,J⟩,X3 [] Aqb⟩ ?_
 rintro m_A _ ⟨k,hk_A,hp_A,rfl⟩
 refine Wz [59] ?_
 refine Xb J (fun h => ?_) (fun h => ?_)
 ·have h3:k<xs.length:=by have:=Gqc h; omega
  have hat:=Yg h3
  refine Wz [7,9,80] ?_;refine zx (Qj J J (X0 xs[k] 0 15) J) J ?_;refine Wz [5,6] ?_
  refine Xb J (fun h4 => ?_) (fun h4 => ?_)
  ·refine Wz [77,179] ?_
   refine Wz [69] ?_
   exact Xl J J (X1 [] Aqc J J (Xi (X9 h3 (by simpa using h4)).symm))
  ·refine Wz [123,243,18] ?_
   refine Wz [2] ?_
   exact⟨xs.length-(k+1),Aqa,_,⟨k+1,Aqa,X8 hp_A h3 (by simpa using h4),J⟩,X3 [] Aqb⟩
 ·have h3:¬((k:Int)<(els xs).length):=Gqd h
  refine Wz [20,67] ?_
  exact Xl J J (X1 [] Aqc J J (Xi (X7 hp_A Aqa).symm))
theorem I_PackTrack (xs:List Int) (hn:Enc.gd xs):Con Tryz.prog 241 [] [al xs] [] (S (packTrack xs)):=by
 have hlx:=Yi xs
 refine Con.of Tryz.func241 J Tryz.ntmps241 J (fun E => ?_)
 refine Wz [125,14,206,0,109] ?_;refine zx (Qt.grdF J J J (.hit .stop) (fun hgrd=>Qj J J (Xr xs hn) J)) J ?_;refine Wz [175,51] ?_
 refine Xb J (fun h => ?_) (fun h => ?_)
 ·rw[hlx] at h
  refine Wz [39] ?_
  exact Xl rfl rfl (X1 [] Aqc rfl rfl (S_eq (by rw[packTrack,if_neg (by simp only[Gqr,decide_eq_true_eq,Gq8] at h; rintro⟨h1,h2⟩; rcases h with h | h <;> first | omega | simp[h2] at h)])))
 rw[hlx] at h
 have h:xs.length≤400∧inOk xs=true:=by
  simp only[Gql,decide_eq_false_iff_not,Gqu] at h
  exact⟨Aqa,h.2⟩
 rw[packTrack,if_pos h]
 refine Wz [15,12,11] ?_
 refine AWP.pre ?_ (W_nil 3 1 J)
 refine Xh (fun m__ st=>∃ (i:Nat) (acc:List UInt8),xs.length-i=m__∧(acc++packRuns (xs.drop i)=packRuns xs∧i≤xs.length∧acc.length≤6*i)∧st=(⟨_,[(0,L xs),(3,Aqg 0),(4,I i)],[.row 1 (bE acc)]⟩:St)) _ ⟨_,⟨0,[],J,Aqd,J⟩,X3 [0] Aqb⟩ ?_
 rintro m_A _ ⟨i,acc,hk_A,hp_A,rfl⟩
 refine Wz [59] ?_
 refine Xb J (fun h5 => ?_) (fun h5 => ?_)
 ·have h5:i<xs.length:=by have:=Gqc h5; omega
  obtain⟨hp1,hp2,hp3⟩:=hp_A
  have hb:=Yc acc
  have hat:=Yg h5
  have hx:=inOk_at h.2 h5
  refine Wz [15,178,10,2,205] ?_;refine Xh (fun m__ st=>∃ (j:Nat),xs.length-j=m__∧(i≤j∧j≤xs.length∧(∀ q,i≤q→q<j→xs[q]? = some xs[i]))∧st=(⟨_,[(0,L xs),(3,Aqg 0),(4,I j),(5,I i)],[.row 1 (bE acc)]⟩:St)) _ ⟨_,⟨i,J,⟨Gqk _,Aqa,fun q h1 h2=>by omega⟩,J⟩,X3 [0] Aqb⟩ ?_
  rintro m_D _ ⟨j,hk_D,hp_D,rfl⟩
  obtain⟨hd1,hd2,hd3⟩:=hp_D
  have hij:i<j→xs.length-j<xs.length-i:=fun h=>by omega
  by_cases hj:j<xs.length
  ·have hat2:=Yg hj
   have f1:decide ((j:Int)<((els xs).length:Int))=true:=Gqb Aqa 
   by_cases he:xs[j]=xs[i]
   ·have f2:decide (xs[j]=xs[i])=true:=Gqb he
    refine Wz [17,17,278,4,4,183,222,4,72,72,121,126,72,72,121,126,250,129,13,24,15,178,94,18,32,85,50] ?_
    refine⟨_, Aqa,_,⟨j+1,J,⟨Aqa,Aqa,fun q h1 h2=>run_next hd3 hj he q h1 h2⟩,J⟩,X3 [0] Aqb⟩
   ·have f2:decide (xs[j]=xs[i])=false:=Gqa he
    have hlt:i<j:=by
     rcases Gqq i j with h1 | h1
     ·exact h1
     ·exact absurd (by congr 1 <;> omega) he
    have hst:=runs_step hlt h5 hd2 hd3 (fun y hy=>by rw[Gqf hj] at hy; cases hy; exact he)
    have hb2:=Ye (encVar (xs[i]+16*((j:Int)-(i:Int))))
    have hb3:=Ym (xs[i]+16*((j:Int)-(i:Int)))
    refine Wz [17,17,278,4,4,183,222,4,72,72,121,126,72,72,121,126,250,129,13,81,20,63,0,80,127,84,155,18] ?_;refine zx (Qj J J (Xm (xs[i]+16*((j:Int)-(i:Int)))) J) J ?_;refine Wz [275,32,85,50] ?_
    refine⟨_, Aqa,_,⟨j,acc++encVar (xs[i]+16*((j:Int)-(i:Int))),J,⟨by rw[←hp1,hst,Gq5],hd2,by rw[Gqp]; omega⟩,J⟩,(by rw[bs_list,bE_app]; exact X3 [0] Aqb)⟩
  ·have f1:decide ((j:Int)<((els xs).length:Int))=false:=Gqa Aqa 
   have hst:=runs_step (show i<j by omega) h5 hd2 hd3 (fun y hy=>by rw[List.getElem?_eq_none Aqa] at hy; cases hy)
   have hb2:=Ye (encVar (xs[i]+16*((j:Int)-(i:Int))))
   have hb3:=Ym (xs[i]+16*((j:Int)-(i:Int)))
   refine Wz [17,17,278,4,4,183,222,4,65,65,220,91,13,81,20,63,0,80,127,84,155,18] ?_;refine zx (Qj J J (Xm (xs[i]+16*((j:Int)-(i:Int)))) J) J ?_;refine Wz [275,32,85,50] ?_
   refine⟨_, Aqa,_,⟨j,acc++encVar (xs[i]+16*((j:Int)-(i:Int))),J,⟨by rw[←hp1,hst,Gq5],hd2,by rw[Gqp]; omega⟩,J⟩,(by rw[bs_list,bE_app]; exact X3 [0] Aqb)⟩
 ·have h5:i=xs.length:=by have:=Gqd h5; omega
  refine Wz [20,10,248,53] ?_
  exact Xl J J (X1 [] Aqc J J (S_eq (congrArg bs (by rw[←hp_A.1,h5]; simp[packRuns]))))
theorem els_at2 {α:Type} [Enc α] {xs:List α} {i j:Nat} (h:i+j<xs.length):(els xs)[((i:Int)+(j:Int)).toNat]? = some (Enc.e xs[i+j]):=by
 have:=Yg h
 rwa[Int.natCast_add] at this
theorem S_PackTrack (xs:List Int) (hn:Enc.gd xs):Con Tryz.prog 220 [] [al xs] [] (S (packTrack xs)):=by
 have hlx:=Yi xs
 refine Con.of Tryz.func220 J Tryz.ntmps220 J (fun E => ?_)
 refine Wz [12,125,14,206,0,109] ?_;refine zx (Qt.grdF J J J (.hit .stop) (fun hgrd=>Qj J J (S_inputsOk xs hn) J)) J ?_;refine Wz [175,51] ?_
 refine Xb J (fun h => ?_) (fun h => ?_)
 ·rw[hlx] at h
  refine Wz [10,2,135,69] ?_
  exact Xl rfl rfl (X1 [] Aqc rfl rfl (S_eq (by rw[packTrack,if_neg (by simp only[Gqr,decide_eq_true_eq,Gq8] at h; rintro⟨h1,h2⟩; rcases h with h | h <;> first | omega | simp[h2] at h)])))
 rw[hlx] at h
 have h:xs.length≤400∧inOk xs=true:=by
  simp only[Gql,decide_eq_false_iff_not,Gqu] at h
  exact⟨Aqa,h.2⟩
 rw[packTrack,if_pos h]
 refine Wz [15,11] ?_;refine Xh (fun m__ st=>∃ (i:Nat) (acc:List UInt8),xs.length-i=m__∧(acc++packRuns (xs.drop i)=packRuns xs∧i≤xs.length∧acc.length≤6*i)∧st=(⟨_,[(0,L xs),(3,S (bs acc)),(4,I i)],[]⟩:St)) _ ⟨_,⟨0,[],J,Aqd,J⟩,X3 [] Aqb⟩ ?_
 rintro m_A _ ⟨i,acc,hk_A,hp_A,rfl⟩
 refine Wz [59] ?_
 refine Xb J (fun h5 => ?_) (fun h5 => ?_)
 ·have h5:i<xs.length:=by have:=Gqc h5; omega
  obtain⟨hp1,hp2,hp3⟩:=hp_A
  have hat:=Yg h5
  have hx:=inOk_at h.2 h5
  refine Wz [15,178,12,205] ?_
  refine Xh (fun m__ st=>∃ (j:Nat),xs.length-j=m__∧(1≤j∧i+j≤xs.length∧(∀ q,i≤q→q<i+j→xs[q]? = some xs[i]))∧st=(⟨_,[(0,L xs),(3,S (bs acc)),(4,I i),(5,I j)],[]⟩:St)) _ ⟨(fun (j:Nat)=>(⟨_,[(0,L xs),(3,S (bs acc)),(4,I i),(5,I j)],[]⟩:St)) (1),⟨1,J,⟨Gqk _,Aqa,fun q h1 h2=>by rw[show q=i by omega]; exact Gqf h5⟩,J⟩,X4 [] Aqc J Aqb (.c J (.c J (.c J (.cons (Xq Aqa) (.nil)))))⟩ ?_
  rintro m_D _ ⟨j,hk_D,hp_D,rfl⟩
  obtain⟨hd1,hd2,hd3⟩:=hp_D
  have hb2:=Ye (encVar (xs[i]+16*(j:Int)))
  have hb3:=Ym (xs[i]+16*(j:Int))
  have hb4:=Ye acc
  have e1:((i+j:Nat):Int)-(i:Int)=j:=Aqa
  by_cases hj:i+j<xs.length
  ·have hat2:=els_at2 hj
   have f1:decide ((i:Int)+(j:Int)<((els xs).length:Int))=true:=Gqb Aqa 
   by_cases he:xs[i+j]=xs[i]
   ·have f2:decide (xs[i+j]=xs[i])=true:=Gqb he
    refine Wz [17,17,279,4,4,251,4,183,222,4,72,72,72,223,121,126,72,72,121,126,250,129,13,24,15,178,94,18,32,85,50] ?_
    refine⟨_, Aqa,_,⟨j+1,J,⟨Aqa,Aqa,run_next hd3 hj he⟩,J⟩,X3 [] Aqb⟩
   ·have f2:decide (xs[i+j]=xs[i])=false:=Gqa he
    have hst:=runs_step (show i<i+j by omega) h5 hd2 hd3 (fun y hy=>by rw[Gqf hj] at hy; cases hy; exact he)
    rw[e1] at hst
    refine Wz [17,17,279,4,4,251,4,183,222,4,72,72,72,223,121,126,72,72,121,126,250,129,13,81,20,169,133,114,155,18] ?_;refine zx (Qj J J (Xy (xs[i]+16*(j:Int))) J) J ?_;refine Wz [233,2,63,18,32,85,50] ?_
    refine⟨_, Aqa,(fun (i:Nat) (acc:List UInt8)=>(⟨_,[(0,L xs),(3,S (bs acc)),(4,I i)],[]⟩:St)) (i+j) (acc++encVar (xs[i]+16*(j:Int))),⟨i+j,acc++encVar (xs[i]+16*(j:Int)),J,⟨by rw[←hp1,hst,Gq5],hd2,by rw[Gqp]; omega⟩,J⟩,X4 [] Aqc J Aqb (.c J (.cons (S_eq (bs_app _ _)) (.c J (.nil))))⟩
  ·have f1:decide ((i:Int)+(j:Int)<((els xs).length:Int))=false:=Gqa Aqa 
   have hst:=runs_step (show i<i+j by omega) h5 hd2 hd3 (fun y hy=>by rw[List.getElem?_eq_none Aqa] at hy; cases hy)
   rw[e1] at hst
   refine Wz [17,17,279,4,4,251,4,183,222,4,65,65,270,220,91,13,81,20,169,133,114,155,18] ?_;refine zx (Qj J J (Xy (xs[i]+16*(j:Int))) J) J ?_;refine Wz [233,2,63,18,32,85,50] ?_
   refine⟨_, Aqa,(fun (i:Nat) (acc:List UInt8)=>(⟨_,[(0,L xs),(3,S (bs acc)),(4,I i)],[]⟩:St)) (i+j) (acc++encVar (xs[i]+16*(j:Int))),⟨i+j,acc++encVar (xs[i]+16*(j:Int)),J,⟨by rw[←hp1,hst,Gq5],hd2,by rw[Gqp]; omega⟩,J⟩,X4 [] Aqc J Aqb (.c J (.cons (S_eq (bs_app _ _)) (.c J (.nil))))⟩
 ·have h5:i=xs.length:=by have:=Gqd h5; omega
  refine Wz [31] ?_
  exact Xl J J (X1 [] Aqc J J (S_eq (congrArg bs (by rw[←hp_A.1,h5]; simp[packRuns]))))
end
section
open Go.RowKit

theorem slEqS (xs ys:List ByteArray) (hn:Enc.gd xs):Con Tryz.prog 189 [] [al xs,al ys] [] (B (decide (xs=ys))):=by
 have hn1:=hn.1
 have hlx:=Yi xs
 have hly:=Yi ys
 by_cases hl:xs.length=ys.length
 ·have hb:decide (((els xs).length:Int)≠((els ys).length:Int))=false:=by rw[hlx,hly,hl]; simp
  refine Con.of Tryz.func189 J Tryz.ntmps189 J (fun E => ?_)
  refine Wz [105,14,118,33,56,117,97] ?_;refine Xh (fun m st=>∃ k:Nat,k+m=xs.length∧(xs.take k=ys.take k)∧st=(⟨_,[(0,L xs),(1,L ys),(12,I (els xs).length),(13,I k)],[]⟩:St)) (xs.length) ⟨_,⟨0,Aqa,Aqd,J⟩,X3 [] Aqb⟩ ?_
  rintro m_A _ ⟨k,hk_A,hp_A,rfl⟩
  refine Wz [3,38,17] ?_
  refine Xb J (fun h => ?_) (fun h => ?_)
  ·have h3:k<xs.length:=by have:=Gqc h; omega
   have h4:k<ys.length:=Aqa
   have hat:=Yg h3
   have hat2:=Yg h4
   by_cases he:xs[k]=ys[k]
   ·have hk:decide (xs[k]≠ys[k])=false:=by simp[he]
    refine Wz [7,10,2,17] ?_;refine Xg u8_0 u8_18 u8_19 J ?_;refine Wz [120,29,120,29,187,13,81,123,50,57,18,0,6] ?_
    exact⟨xs.length-(k+1),Aqa,_,⟨k+1,Aqa,Yp h3 h4 hp_A he,J⟩,X3 [] Aqb⟩
   ·have hk:decide (xs[k]≠ys[k])=true:=by simp[he]
    refine Wz [7,10,2,17] ?_;refine Xg u8_0 u8_18 u8_19 J ?_;refine Wz [120,29,120,29,187,13,24,54] ?_
    exact Xl J J (X1 [] Aqc J J (Xi (eq_ne h3 h4 he).symm))
  ·have h3:¬((k:Int)<(els xs).length):=Gqd h
   refine Wz [20,67] ?_
   exact Xl J J (X1 [] Aqc J J (Xi (Yn Aqa hl hp_A).symm))
 ·have hb:decide (((els xs).length:Int)≠((els ys).length:Int))=true:=by rw[hlx,hly]; simp; omega
  refine Con.of Tryz.func189 J Tryz.ntmps189 J (fun E => ?_)
  refine Wz [105,14,41] ?_
  exact Xl J J (X1 [] Aqc J J (Xi (Yo hl).symm))
theorem I_sameLevel (x y:TLevel) (hg:Enc.gd x):Con Tryz.prog 92 [] [ag x,ag y] [] (B (decide (x=y))):=by
 have h:decide (x.Rows=y.Rows)=decide (x=y):=by cases x; cases y; simp
 refine Con.of Tryz.func92 J Tryz.ntmps92 J (fun E => ?_)
 refine Wz [96,23,19] ?_;refine zx (Qj J J (slEqS x.Rows y.Rows hg) J) J ?_;refine Wz [53] ?_
 exact Xl J J (X1 [] Aqc J J (Xi h))
end
section
open Go.RowKit

theorem S_sameLevel (x y:TLevel) (hg:Enc.gd x):Con Tryz.prog 35 [] [ag x,ag y] [] (B (decide (x=y))):=by
 have he:decide (x.Rows=y.Rows)=decide (x=y):=by cases x; cases y; simp
 rw[←he]
 clear he
 obtain⟨xs⟩:=x
 obtain⟨ys⟩:=y
 have hn:Enc.gd xs:=hg
 have hn1:=hn.1
 show Con _ _ _ _ _ (B (decide (xs=ys)))
 have hlx:=Yi xs
 have hly:=Yi ys
 by_cases hl:xs.length=ys.length
 ·have hb:decide (((els xs).length:Int)≠((els ys).length:Int))=false:=by rw[hlx,hly,hl]; simp
  refine Con.of Tryz.func35 J Tryz.ntmps35 J (fun E => ?_)
  refine Wz [96,34,14,89,118,33,11] ?_;refine Xh (fun m st=>∃ k:Nat,k+m=xs.length∧(xs.take k=ys.take k)∧st=(⟨_,[(2,Aqf 0),(3,Aqf 1),(5,I k)],[.box [.rd [] (sl xs)],.box [.rd [] (sl ys)]]⟩:St)) (xs.length) ⟨_,⟨0,Aqa,Aqd,J⟩,X3 [0,1] Aqb⟩ ?_
  rintro m_A _ ⟨k,hk_A,hp_A,rfl⟩
  refine Wz [56,89,38] ?_
  refine Xb J (fun h => ?_) (fun h => ?_)
  ·have h3:k<xs.length:=by have:=Gqc h; omega
   have h4:k<ys.length:=Aqa
   have hat:=Yg h3
   have hat2:=Yg h4
   by_cases he:xs[k]=ys[k]
   ·have hk:decide (xs[k]≠ys[k])=false:=by simp[he]
    refine Wz [88] ?_;refine Xg u8_20 u8_21 u8_22 J ?_;refine Wz [8,66,29,8,66,29,187,13,81,62] ?_
    exact⟨xs.length-(k+1),Aqa,_,⟨k+1,Aqa,Yp h3 h4 hp_A he,J⟩,X3 [0,1] Aqb⟩
   ·have hk:decide (xs[k]≠ys[k])=true:=by simp[he]
    refine Wz [88] ?_;refine Xg u8_20 u8_21 u8_22 J ?_;refine Wz [8,66,29,8,66,29,187,13,24,54] ?_
    exact Xl J J (X1 [] Aqc J J (Xi (eq_ne h3 h4 he).symm))
  ·have h3:¬((k:Int)<(els xs).length):=Gqd h
   refine Wz [20,67] ?_
   exact Xl J J (X1 [] Aqc J J (Xi (Yn Aqa hl hp_A).symm))
 ·have hb:decide (((els xs).length:Int)≠((els ys).length:Int))=true:=by rw[hlx,hly]; simp; omega
  refine Con.of Tryz.func35 J Tryz.ntmps35 J (fun E => ?_)
  refine Wz [96,34,14,89,41] ?_
  exact Xl J J (X1 [] Aqc J J (Xi (Yo hl).symm))
end
section
open Go.RowKit

theorem I_TrackOk (t:TTrack) (g:Enc.gd t):Con Tryz.prog 187 [] [ag t] [] (B (trackOk t)):=by
 have hl:=Yi t.Inputs
 refine Con.of Tryz.func187 J Tryz.ntmps187 J (fun E => ?_)
 refine Wz [21,23,14,193,58] ?_;refine zx (Qt.grdT J J J (.hit (.hit .stop)) (fun hgrd=>Qj J J (Xr t.Inputs g) J)) J ?_;refine Wz [25,53] ?_
 exact Xl J J (X1 [] Aqc J J (Xi (by rw[hl]; rfl)))
theorem S_TrackOk (t:TTrack) (g:Enc.gd t):Con Tryz.prog 306 [] [ag t] [] (B (trackOk t)):=by
 have hl:=Yi t.Inputs
 refine Con.of Tryz.func306 J Tryz.ntmps306 J (fun E => ?_)
 refine Wz [21,23,14,193,58] ?_;refine zx (Qt.grdT J J J (.hit (.hit .stop)) (fun hgrd=>Qj J J (S_inputsOk t.Inputs g) J)) J ?_;refine Wz [25,53] ?_
 exact Xl J J (X1 [] Aqc J J (Xi (by rw[hl]; rfl)))
theorem I_TracksOk (xs:List TTrack) (g:Enc.gd xs):Con Tryz.prog 90 [] [al xs] [] (B (tracksOk xs)):=by
 have hl:=Yi xs
 refine Con.of Tryz.func90 J Tryz.ntmps90 J (fun E => ?_)
 refine Wz [125,14,153,0,109] ?_;refine zx (Qt.grdF J J J (.hit .stop) (fun hgrd=>Z3 J J J)) J ?_;refine Wz [272,51] ?_
 refine Xb J (fun h => ?_) (fun h => ?_)
 ·simp only[Gqr,decide_eq_true_eq] at h
  rw[tracks_no Aqa]
  refine Wz [39] ?_
  exact Xl J J (X1 [] Aqc J J J)
 simp only[Gql,decide_eq_false_iff_not] at h
 refine Wz [15,56,117,97] ?_;refine Xh (fun m st=>∃ k:Nat,k+m=xs.length∧((xs.take k).all trackOk=true)∧st=(⟨_,[(13,L xs),(14,I (els xs).length),(15,I k)],[]⟩:St)) (xs.length) ⟨_,⟨0,Aqa,Aqd,J⟩,X3 [] Aqb⟩ ?_
 rintro m_A _ ⟨k,hk_A,hp_A,rfl⟩
 refine Wz [3,38,17] ?_
 refine Xb J (fun h => ?_) (fun h => ?_)
 ·have h3:k<xs.length:=by have:=Gqc h; omega
  have hat:=Yg h3
  have hc:=I_TrackOk xs[k] (g.2 _ (Gqe h3))
  cases ho:trackOk xs[k] with
  |false =>
   rw[ho] at hc
   rw[tracks_bad (X9 h3 ho)]
   refine Wz [7,3,46,36,48,90] ?_;refine zx (Qj J J (hc) J) J ?_;refine Wz [5,24,54] ?_
   exact Xl J J (X1 [] Aqc J J J)
  |true =>
   rw[ho] at hc
   refine Wz [7,3,46,36,48,90] ?_;refine zx (Qj J J (hc) J) J ?_;refine Wz [5,81,123,50,57,18,0,6] ?_
   exact⟨xs.length-(k+1),Aqa,_,⟨k+1,Aqa,X8 hp_A h3 ho,J⟩,X3 [] Aqb⟩
 ·have h3:¬((k:Int)<(els xs).length):=Gqd h
  rw[tracks_yes Aqa Aqa  (X7 hp_A Aqa)]
  refine Wz [20,67] ?_
  exact Xl J J (X1 [] Aqc J J J)
theorem S_TracksOk (xs:List TTrack) (g:Enc.gd xs):Con Tryz.prog 250 [] [al xs] [] (B (tracksOk xs)):=by
 have hl:=Yi xs
 have hg1:=g.1
 refine Con.of Tryz.func250 J Tryz.ntmps250 J (fun E => ?_)
 refine Wz [12,11] ?_;refine Xh (fun m st=>∃ k:Nat,k+m=xs.length∧((xs.take k).all trackOk=true)∧st=(⟨_,[(0,L xs),(3,I k)],[]⟩:St)) (xs.length) ⟨_,⟨0,Aqa,Aqd,J⟩,X3 [] Aqb⟩ ?_
 rintro m_A _ ⟨k,hk_A,hp_A,rfl⟩
 refine Wz [59] ?_
 refine Xb J (fun h => ?_) (fun h => ?_)
 ·have h3:k<xs.length:=by have:=Gqc h; omega
  have hat:=Yg h3
  have hc:=S_TrackOk xs[k] (g.2 _ (Gqe h3))
  cases ho:trackOk xs[k] with
  |false =>
   rw[ho] at hc
   rw[tracks_bad (X9 h3 ho)]
   refine Wz [7,9,46] ?_;refine zx (Qj J J (hc) J) J ?_;refine Wz [5,24,54] ?_
   exact Xl J J (X1 [] Aqc J J J)
  |true =>
   rw[ho] at hc
   refine Wz [7,9,46] ?_;refine zx (Qj J J (hc) J) J ?_;refine Wz [5,81,62] ?_
   exact⟨xs.length-(k+1),Aqa,_,⟨k+1,Aqa,X8 hp_A h3 ho,J⟩,X3 [] Aqb⟩
 ·have h3:¬((k:Int)<(els xs).length):=Gqd h
  have hall:=X7 hp_A Aqa 
  refine Wz [20,10,14] ?_;refine zx (Qj J J (X0 (els xs).length 1 4) J) J ?_;refine Wz [53] ?_
  exact Xl J J (X1 [] Aqc J J (Xi (by
   rw[hl]
   by_cases h4:1≤xs.length∧xs.length≤4
   ·rw[tracks_yes h4.1 h4.2 hall,Yx.2 Aqa]
   ·rw[tracks_no Aqa,←Gxd,Yx]; omega)))
theorem least_next {l:List TTrack} {k:Nat} (h:k<l.length):((leastK l (k+1):Nat):Int)=min ((leastK l k:Nat):Int) ((els l[k].Inputs).length:Int):=by
 rw[leastK,lenAt_is h,Yi]
 omega
theorem I_KnownTicks (xs:List TTrack) (g:Enc.gd xs):Con Tryz.prog 96 [] [al xs] [] (I (knownTicks xs:Nat)):=by
 have hl:=Yi xs
 have hc:=I_TracksOk xs g
 cases ho:tracksOk xs with
 |false =>
  rw[ho] at hc
  rw[show knownTicks xs=0 from if_neg (by rw[ho]; decide)]
  refine Con.of Tryz.func96 J Tryz.ntmps96 J (fun E => ?_)
  refine Wz [125] ?_;refine zx (Qj J J (hc) J) J ?_;refine Wz [5,26] ?_
  exact Xl J J (X1 [] Aqc J J J)
 | true =>
  rw[ho] at hc
  rw[show knownTicks xs=leastK xs xs.length from if_pos ho]
  obtain⟨h1,h4⟩:=Ks ho
  have h0:0<xs.length:=Aqa
  have hat0:(els xs)[(0:Int).toNat]? = some (Enc.e xs[0]):=Yg h0
  refine Con.of Tryz.func96 J Tryz.ntmps96 J (fun E => ?_)
  refine Wz [125] ?_;refine zx (Qj J J (hc) J) J ?_;refine Wz [64,10,130,167,14,73,117,97] ?_;refine Xh (fun m st=>∃ k:Nat,k+m=xs.length∧(True)∧st=(⟨_,[(3,I (leastK xs k:Nat)),(14,L xs),(15,I (els xs).length),(16,I k)],[]⟩:St)) (xs.length) ⟨(fun k:Nat=>(⟨_,[(3,I (leastK xs k:Nat)),(14,L xs),(15,I (els xs).length),(16,I k)],[]⟩:St)) 0,⟨0,Aqa,trivial,J⟩,X4 [] Aqc J Aqb (.cons (Xq (by rw[least_0,lenAt_is h0,Yi])) (.c J (.c J (.c J (.nil)))))⟩ ?_
  rintro m_A _ ⟨k,hk_A,hp_A,rfl⟩
  refine Wz [3,38,17] ?_
  refine Xb J (fun h => ?_) (fun h => ?_)
  ·have h3:k<xs.length:=by have:=Gqc h; omega
   have hat:=Yg h3
   refine Wz [7,3,46,36,48,94,89,180,32,85,50,57,18,0,6] ?_
   exact⟨xs.length-(k+1),Aqa,(fun k:Nat=>(⟨_,[(3,I (leastK xs k:Nat)),(14,L xs),(15,I (els xs).length),(16,I k)],[]⟩:St)) (k+1),⟨k+1,Aqa,trivial,J⟩,X4 [] Aqc J Aqb (.cons (Xq (least_next h3).symm) (.c J (.c J (.c J (.nil)))))⟩
  ·have h3:¬((k:Int)<(els xs).length):=Gqd h
   have hk:k=xs.length:=Aqa
   rw[hk]
   refine Wz [31] ?_
   exact Xl J J (X1 [] Aqc J J J)
theorem S_KnownTicks (xs:List TTrack) (g:Enc.gd xs):Con Tryz.prog 253 [] [al xs] [] (I (knownTicks xs:Nat)):=by
 have hl:=Yi xs
 have hc:=S_TracksOk xs g
 cases ho:tracksOk xs with
 |false =>
  rw[ho] at hc
  rw[show knownTicks xs=0 from if_neg (by rw[ho]; decide)]
  refine Con.of Tryz.func253 J Tryz.ntmps253 J (fun E => ?_)
  refine Wz [125] ?_;refine zx (Qj J J (hc) J) J ?_;refine Wz [5,26] ?_
  exact Xl J J (X1 [] Aqc J J J)
 | true =>
  rw[ho] at hc
  rw[show knownTicks xs=leastK xs xs.length from if_pos ho]
  obtain⟨h1,h4⟩:=Ks ho
  have h0:0<xs.length:=Aqa
  have hat0:(els xs)[(0:Int).toNat]? = some (Enc.e xs[0]):=Yg h0
  refine Con.of Tryz.func253 J Tryz.ntmps253 J (fun E => ?_)
  refine Wz [125] ?_;refine zx (Qj J J (hc) J) J ?_;refine Wz [64,10,130,167,14,2,11] ?_;refine Xh (fun m__ st=>∃ (k:Nat),xs.length-k=m__∧(1≤k∧k≤xs.length)∧st=(⟨_,[(0,L xs),(3,I (leastK xs k:Nat)),(4,I k)],[]⟩:St)) _ ⟨(fun (k:Nat)=>(⟨_,[(0,L xs),(3,I (leastK xs k:Nat)),(4,I k)],[]⟩:St)) (1),⟨1,J,⟨Aqa,Aqa⟩,J⟩,X4 [] Aqc J Aqb (.c J (.cons (Xq (by rw[least_1,lenAt_is h0,Yi])) (.c J (.nil))))⟩ ?_
  rintro m_A _ ⟨k,hk_A,hp_A,rfl⟩
  refine Wz [59] ?_
  refine Xb J (fun h => ?_) (fun h => ?_)
  ·have h3:k<xs.length:=by have:=Gqc h; omega
   have hat:=Yg h3
   refine Wz [7,63,0,130,167,14,180,87] ?_
   refine⟨_, Aqa,(fun (k:Nat)=>(⟨_,[(0,L xs),(3,I (leastK xs k:Nat)),(4,I k)],[]⟩:St)) (k+1),⟨k+1,J,⟨Aqa,Aqa⟩,J⟩,X4 [] Aqc J Aqb (.c J (.cons (Xq (least_next h3).symm) (.c J (.nil))))⟩
  ·have h3:¬((k:Int)<(els xs).length):=Gqd h
   have hk:k=xs.length:=Aqa
   rw[hk]
   refine Wz [31] ?_
   exact Xl J J (X1 [] Aqc J J J)
theorem I_FaultOk (f:TFault) (n:Int) (hn:0≤n):Con Tryz.prog 93 [] [ag f,ai n] [] (B (faultOk f n)):=by
 refine Con.of Tryz.func93 J Tryz.ntmps93 J (fun E => ?_)
 refine Wz [21,23] ?_;refine zx (Qj J J (Xo f.Tick 0 400) J) J ?_;refine Wz [58] ?_;refine zx (Qt.grdT J J J (.hit (.hit .stop)) (fun hgrd=>q_geq J J J J)) J ?_;refine Wz [25,58,294] ?_;refine zx (Qt.grdT J J J (.hit (.hit (.hit .stop))) (fun hgrd=>Z9 J J J J)) J ?_;refine Wz [25,58] ?_;refine zx (Qt.grdT J J J (.hit (.hit .stop)) (fun hgrd=>Qj J J (Xo f.Add 0 9) J)) J ?_;refine Wz [25,53] ?_
 exact Xl J J (X1 [] Aqc J J J)
theorem S_FaultOk (f:TFault) (n:Int) (hn:0≤n) (hn2:n≤9223372036854775807):Con Tryz.prog 251 [] [ag f,ai n] [] (B (faultOk f n)):=by
 refine Con.of Tryz.func251 J Tryz.ntmps251 J (fun E => ?_)
 refine Wz [21,10,206,58] ?_;refine zx (Qt.grdT J J J (.hit (.hit .stop)) (fun hgrd=>Qj J J (X0 f.Tick 0 400) J)) J ?_;refine Wz [25,58,294] ?_;refine zx (Qt.grdT J J J (.hit (.hit (.hit .stop))) (fun hgrd=>Xc J J J J Aqa)) J ?_;refine zx (Qt.grdT J J J (.hit (.hit (.hit (.hit .stop)))) (fun hgrd=>Qj J J (X0 f.Player 0 (n-1)) J)) J ?_;refine Wz [25,58] ?_;refine zx (Qt.grdT J J J (.hit (.hit .stop)) (fun hgrd=>Qj J J (X0 f.Add 0 9) J)) J ?_;refine Wz [25,53] ?_
 exact Xl J J (X1 [] Aqc J J (Xi (fault_S f n)))
end
end Go.Proofs.YtfklmiijhcajdaaGreat
