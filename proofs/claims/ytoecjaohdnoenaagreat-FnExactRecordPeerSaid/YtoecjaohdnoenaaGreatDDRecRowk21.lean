/-
  Rules, data and contracts of functions: part 22 of the proof.
  Conditions: those that each theorem names.
-/
import Derived.Test.YtoecjaohdnoenaaGreatDDRecRowk20
set_option linter.unusedSimpArgs false
set_option linter.unusedVariables false
set_option maxRecDepth 8000
set_option maxHeartbeats 8000000
namespace Go.Proofs.YtoecjaohdnoenaaGreat
section
open Go.RowKit

theorem dvGo_some (s:ByteArray) (q:Nat):∀ (f k:Nat) (n m:Int) (j:Nat),0≤n→dvGo s q n k f=some (m,j)→0≤m∧m≤1099511627775∧k<j∧j≤k+f∧q+j≤s.size:=by
 intro f
 induction f with
 |zero=>intro k n m j _ h; simp[dvGo] at h
 | succ f ih =>
  intro k n m j h0 h
  have hb:=Yq s (q+k)
  rw[dvGo] at h
  have hp:(0:Int)≤byteAt s (q+k)%128*2 ^ (7*k):=Int.mul_nonneg (by omega) (Int.le_of_lt (Int.pow_pos (by omega)))
  split at h
  ·split at h
   ·have:=ih (k+1) _ m j (by omega) h
    omega
   ·split at h
    ·cases h
    ·simp only[Option.some.injEq,Prod.mk.injEq] at h
     obtain⟨rfl,rfl⟩:=h
     omega
  ·cases h
theorem Yt {s:ByteArray} {p m:Int} {j:Nat} (h:decVar s p=some (m,j)):0≤p∧0≤m∧m≤1099511627775∧1≤j∧j≤6∧p+j≤s.size:=by
 unfold decVar at h
 split at h
 ·have:=dvGo_some s p.toNat 6 0 0 m j (by omega) h
  omega
 ·cases h
theorem q_quoN {P:Program} {ops:Array Oper} {o:Oper} {st:St} {n:Nat} {t t':TypeId} {y z:Operand} {ps qs:List Nat} {i j r:Int} (ho:o.op = .binOp .quo t y z t') (hg:o.guard=none) (hy:st.ev y = .o (.c (.rd ps (.v (.int .i64 i))))) (hz:st.ev z = .o (.c (.rd qs (.v (.int .i64 j)))))
  (hr:i.tdiv j=r) (hb : -9223372036854775808≤i∧i≤9223372036854775807∧1≤j):Qt P ops o st (I r) [] n :=
 hr▸Zu ho hg hy hz fun w=>by
  have:j≠0:=by omega
  simp[binOp,Op.intDiv,this,IntWalk.i64_quo' _ _ hb]
def signed (n:Int):Int:=if 0≤n∧n≤1099511627775 then (if n%2=0 then n/2 else -((n+1)/2)) else 0
theorem signed_gd (n:Int):I64 (signed n):=by
 unfold signed
 split
 ·split <;> exact⟨by omega,by omega⟩
 ·exact⟨by omega,by omega⟩
theorem neg_tdiv {n:Int} (h:0≤n):(-(n+1)).tdiv 2 = -((n+1)/2):=by
 rw[Int.neg_tdiv,Int.tdiv_eq_ediv_of_nonneg (by omega)]
theorem I_Signed (n:Int) (hn:I64 n):Con Tryz.prog 295 [] [ai n] [] (I (signed n)):=by
 obtain⟨hn1,hn2⟩:=hn
 refine Con.of Tryz.func295 J Tryz.ntmps295 J (fun E => ?_)
 refine Wz [87,152,106,229,103] ?_
 refine Xb J (fun h => ?_) (fun h => ?_)
 ·simp only[Gqr,decide_eq_true_eq] at h
  refine Wz [98] ?_
  exact Gb J (Gc [] J J (Xz (by rw[signed,if_neg (by omega)])))
 simp only[Gqn,decide_eq_false_iff_not] at h
 have hv:=neg_tdiv (n:=n) (by omega)
 refine Wz [22,40,149,186,3] ?_
 refine Xb J (fun h1 => ?_) (fun h1 => ?_)
 ·have h1:=Gqe h1
  refine Wz [10,179,137] ?_
  exact Gb J (Gc [] J J (Xz (by rw[signed,if_pos (by omega),if_pos (by omega)])))
 ·have h1:=Gqf h1
  refine Wz [22,10,18,264] ?_;refine zx (q_quoN J J J J (by assumption) (by omega)) J ?_;refine Wz [17] ?_
  exact Gb J (Gc [] J J (Xz (by rw[signed,if_pos (by omega),if_neg (by omega)])))
theorem S_Signed (n:Int) (hn:I64 n):Con Tryz.prog 292 [] [ai n] [] (I (signed n)):=by
 obtain⟨hn1,hn2⟩:=hn
 refine Con.of Tryz.func292 J Tryz.ntmps292 J (fun E => ?_)
 refine Wz [87] ?_;refine zx (Qj J J (Ya n 0 1099511627775) J) J ?_;refine Wz [9,3] ?_
 refine Xb J (fun h => ?_) (fun h => ?_)
 ·have h:¬(0≤n∧n≤1099511627775):=by rw[←Za]; simpa using h
  refine Wz [98] ?_
  exact Gb J (Gc [] J J (Xz (by rw[signed,if_neg h])))
 have h:0≤n∧n≤1099511627775:=by rw[←Za]; simpa using h
 have hv:=neg_tdiv (n:=n) (by omega)
 have hm:n.toNat &&& (1:Int).toNat=n.toNat%2:=Gx8 n.toNat 1
 refine Wz [22,40] ?_;refine zx (q_bandK J J J J (by assumption) (by omega)) J ?_;refine Wz [186,3] ?_
 refine Xb J (fun h1 => ?_) (fun h1 => ?_)
 ·have h1:=Gqe h1
  refine Wz [10,18,264] ?_;refine zx (q_quoN J J J J (by assumption) (by omega)) J ?_;refine Wz [137] ?_
  exact Gb J (Gc [] J J (Xz (by rw[signed,if_pos (by omega),if_neg (by omega)])))
 ·have h1:=Gqf h1
  refine Wz [22,10,179,17] ?_
  exact Gb J (Gc [] J J (Xz (by rw[signed,if_pos (by omega),if_pos (by omega)])))
/-! ### Lists -/
def uiGo (s:ByteArray) (p:Nat):Nat→Nat→Option (List Int×Nat)
 |0,pos=>some ([],pos)
 |c+1,pos=>match decVar s ((p:Int)+(pos:Int)) with
  |none=>none
  |some (v,m)=>(uiGo s p c (pos+m)).map fun r=>(signed v::r.1,r.2)
def unpackInts (s:ByteArray) (p:Int):Option (List Int×Nat):=match decVar s p with
 |none=>none
 |some (n,k)=>uiGo s p.toNat n.toNat k
@[reducible] def uiO:Option (List Int×Nat)→List Ob
 |none => [.row 1 []]
 |some (l,_) => [.row 1 (els l)]
@[reducible] def uiR:Option (List Int×Nat)→V
 |none => .tu [.c (.ref 0),.c (jn 0),.c (bv false)]
 |some (_,k) => .tu [.c (.ref 0),.c (jn k),.c (bv true)]
theorem uiGo_some (s:ByteArray) (p:Nat):∀ (c pos:Nat) (l:List Int) (j:Nat),uiGo s p c pos=some (l,j)→l.length=c∧pos+c≤j∧(0<c→p+j≤s.size)∧(∀ x∈l,I64 x):=by
 intro c
 induction c with
 |zero =>
  intro pos l j h
  simp only[uiGo,Option.some.injEq,Prod.mk.injEq] at h
  obtain⟨rfl,rfl⟩:=h
  exact⟨J,by omega,fun h=>by omega,fun x hx=>by simp at hx⟩
 | succ c ih =>
  intro pos l j h
  rw[uiGo] at h
  split at h
  ·cases h
  ·rename_i v m hd
   obtain⟨r,h1,h2⟩:=Option.map_eq_some_iff.1 h
   simp only[Prod.mk.injEq] at h2
   obtain⟨rfl,rfl⟩:=h2
   have hm:=Yt hd
   obtain⟨a1,a2,a3,a4⟩:=ih (pos+m) r.1 r.2 h1
   refine⟨by simp[a1],by omega,fun _ => ?_,fun x hx => ?_⟩
   ·by_cases hc:0<c
    ·exact a3 hc
    ·have:c=0:=by omega
     subst this
     simp only[uiGo,Option.some.injEq] at h1
     rw[←h1]
     show p+(pos+m)≤s.size
     omega
   ·rcases List.mem_cons.1 hx with rfl | hx
    ·exact signed_gd v
    ·exact a4 x hx
theorem Vb {s:ByteArray} {p:Int} {l:List Int} {j:Nat} (h:unpackInts s p=some (l,j)):0≤p∧1≤j∧p+j≤s.size∧(l.length:Int)+1≤j∧(∀ x∈l,I64 x):=by
 unfold unpackInts at h
 split at h
 ·cases h
 ·rename_i n k hd
  have hm:=Yt hd
  obtain⟨a1,a2,a3,a4⟩:=uiGo_some s _ _ _ _ _ h
  refine⟨hm.1,by omega,?_,by omega,a4⟩
  by_cases hn:0<n.toNat
  ·have:=a3 hn; omega
  ·have h0:n.toNat=0:=by omega
   rw[h0] at h
   simp only[uiGo,Option.some.injEq,Prod.mk.injEq] at h
   omega
theorem els_snocI (acc:List Int) (v:Int):els (acc ++ [v])=els acc ++ [[.v (.int .i64 v)]]:=by simp[els,Enc.e]
theorem I_UnpackInts (s:ByteArray) (p:Int) (hs:s.size≤1099511627776) (hp:I64 p):Con Tryz.prog 259 [] [astr s,ai p] (uiO (unpackInts s p)) (uiR (unpackInts s p)):=by
 have hd:=Xs s p hs hp
 cases hv:decVar s p with
 |none =>
  rw[hv] at hd
  rw[show unpackInts s p=none by rw[unpackInts,hv]]
  refine Con.of Tryz.func259 J Tryz.ntmps259 J (fun E => ?_)
  refine Wz [4,95,2,13,126,84,45,161,25,50,95,137] ?_
  exact Xr J J J J (Yc [1] [0] J J (by decide) J J J)
 | some r =>
  obtain⟨n,k0⟩:=r
  rw[hv] at hd
  have hm:=Yt hv
  obtain⟨q,rfl⟩:∃ q:Nat,p=q:=⟨p.toNat,by omega⟩
  obtain⟨c,rfl⟩:∃ c:Nat,n=c:=⟨n.toNat,by omega⟩
  rw[show unpackInts s q=uiGo s q c k0 by rw[unpackInts,hv]; rfl]
  by_cases hbig:(s.size:Int)-q-k0<c
  ·have hb:decide ((s.size:Int)-q-k0<c)=true:=Gqb hbig
   have hno:uiGo s q c k0=none:=by
    cases ho:uiGo s q c k0 with
    |none=>rfl
    |some r =>
     have:=uiGo_some s q c k0 r.1 r.2 ho
     omega
   rw[hno]
   refine Con.of Tryz.func259 J Tryz.ntmps259 J (fun E => ?_)
   refine Wz [4,95,2,13,126,84,81,72,1,31,118,31,118,86,6,50,95,137] ?_
   exact Xr J J J J (Yc [1] [0] J J (by decide) J J J)
  have hb:decide ((s.size:Int)-q-k0<c)=false:=Gqa hbig
  refine Con.of Tryz.func259 J Tryz.ntmps259 J (fun E => ?_)
  refine Wz [4,95,2,13,126,84,81,72,1,31,118,31,118,86,60,10] ?_;refine M1 (q_makec 1 J J J J (by omega) (by omega) (by omega) (by omega) J (by simp)) J J ?_;refine Wz [2,46] ?_;refine Xj (fun m__ st=>∃ (k:Nat) (pos:Nat) (acc:List Int),c-k=m__∧(k≤c∧acc.length=k∧q+pos+(c-k)≤s.size+(c-k)∧q+pos≤s.size∧(uiGo s q (c-k) pos).map (fun r=>(acc++r.1,r.2))=uiGo s q c k0)∧st=(⟨_,[(0,S s),(1,I q),(7,I c),(8,I pos),(10,.o (.c (.ref 0))),(11,I k)],[.row 1 (els acc)]⟩:St)) _ ⟨_,⟨0,k0,[],J,⟨by omega,J,by omega,by omega,by simp⟩,J⟩,Gi [0]⟩ ?_
  rintro m_A _ ⟨k,pos,acc,hk_A,hp_A,rfl⟩
  obtain⟨hkc,hacc,_,hpos,hgo⟩:=hp_A
  have hla:=Yx acc
  rw[←hgo]
  refine Wz [20,37] ?_
  refine Xb J (fun h => ?_) (fun h => ?_)
  ·have hlt:k<c:=by have:=Gqe h; omega
   have hd2:=Xs s ((q:Int)+(pos:Int)) hs ⟨by omega,by omega⟩
   obtain⟨f,hf⟩:∃ f,c-k=f+1:=⟨c-k-1,by omega⟩
   rw[hf]
   cases hv2:decVar s ((q:Int)+(pos:Int)) with
   |none =>
    rw[hv2] at hd2
    rw[show uiGo s q (f+1) pos=none by rw[uiGo,hv2]]
    refine Wz [11,99,18] ?_;refine M1 (Z3 J J (hd2) J J J) J J ?_;refine Wz [84,50,95,135,62,145,64] ?_
    exact Xr J J J J (Yc [1] [1] J J (by decide) J J J)
   |some r =>
    obtain⟨v,m⟩:=r
    rw[hv2] at hd2
    have hm2:=Yt hv2
    have hsg:=I_Signed v ⟨by omega,by omega⟩
    refine Wz [11,99,18] ?_;refine M1 (Z3 J J (hd2) J J J) J J ?_;refine Wz [84,41,13] ?_;refine zx (Qj J J (hsg) J) J ?_;refine Wz [101,194,2,33,0,18,104] ?_
    refine⟨_,(by omega),(fun (k:Nat) (pos:Nat) (acc:List Int)=>(⟨_,[(0,S s),(1,I q),(7,I c),(8,I pos),(10,.o (.c (.ref 0))),(11,I k)],[.row 1 (els acc)]⟩:St)) (k+1) (pos+m) (acc ++ [signed v]),⟨k+1,pos+m,acc ++ [signed v],J,⟨by omega,by simp[hacc],by omega,by omega,by rw[uiGo,hv2,show c-(k+1)=f by omega]; simp[Option.map_map]; rfl⟩,J⟩,Ga [0] J (Kw (els_snocI acc _)) (.c J (.c J (.c J (.c J (.c J (.c J (.nil)))))))⟩
  ·have hkk:k=c:=by have:=Gqf h; omega
   subst hkk
   rw[show uiGo s q (k-k) pos=some ([],pos) by rw[Nat.sub_self]; rfl]
   refine Wz [27,13,95,17] ?_
   exact Xr J J J J (Gc [0] J (Kw (by simp)) J)
theorem S_UnpackInts (s:ByteArray) (p:Int) (hs:s.size≤1099511627776) (hp:I64 p):Con Tryz.prog 257 [] [astr s,ai p] (uiO (unpackInts s p)) (uiR (unpackInts s p)):=by
 have hd:=X5 s p hs hp
 have h00:([]:List (List T)).length=0:=rfl
 cases hv:decVar s p with
 |none =>
  rw[hv] at hd
  rw[show unpackInts s p=none by rw[unpackInts,hv]]
  have hb0:decide ((0:Int)<0)=false:=rfl
  refine Con.of Tryz.func257 J Tryz.ntmps257 J (fun E => ?_)
  refine Wz [4,95,2,13,126,223,2,4,175,2,46] ?_;refine Xj (fun m st=>∃ k:Nat,k+m=1∧(k=0)∧st=(⟨_,[(7,I 0),(9,B false),(11,I k)],[]⟩:St)) (1) ⟨_,⟨0,by omega,J,J⟩,Gi []⟩ ?_
  rintro m_A _ ⟨k,hk_A,hp_A,rfl⟩
  subst hp_A
  refine Wz [20,12,0,70,6,76,27,40,9,50,175,95,137] ?_
  exact Xr J J J J (Gc [0] J J J)
 | some r =>
  obtain⟨n,k0⟩:=r
  rw[hv] at hd
  have hm:=Yt hv
  obtain⟨q,rfl⟩:∃ q:Nat,p=q:=⟨p.toNat,by omega⟩
  obtain⟨c,rfl⟩:∃ c:Nat,n=c:=⟨n.toNat,by omega⟩
  rw[show unpackInts s q=uiGo s q c k0 by rw[unpackInts,hv]; rfl]
  refine Con.of Tryz.func257 J Tryz.ntmps257 J (fun E => ?_)
  refine Wz [4,95,2,13,126,223,2,4,175,2,46] ?_;refine Xj (fun m__ st=>∃ (k:Nat) (pos:Nat) (acc:List Int) (ok:Bool),c+1-k=m__∧(k≤c+1∧acc.length=k∧k≤s.size+1∧(ok=true→k≤c∧k+1≤pos∧q+pos≤s.size∧(uiGo s q (c-k) pos).map (fun r=>(acc++r.1,r.2))=uiGo s q c k0)∧(ok=false→uiGo s q c k0=none)∧pos≤s.size)∧st=(⟨_,[(0,S s),(1,I q),(7,I c),(8,I pos),(9,B ok),(10,.o (.c (.ref 0))),(11,I k)],[.row 1 (els acc)]⟩:St)) _ ⟨_,⟨0,k0,[],true,J,⟨by omega,J,by omega,fun _=>⟨by omega,by omega,by omega,by simp⟩,fun e=>(by cases e),by omega⟩,J⟩,Gi [0]⟩ ?_
  rintro m_A _ ⟨k,pos,acc,ok,hk_A,hp_A,rfl⟩
  obtain⟨hkc,hacc,hks,hok,hno,hps⟩:=hp_A
  have hla:=Yx acc
  cases ok with
  | false =>
   rw[hno rfl]
   by_cases hlt:(k:Int)<c
   ·have hb:decide ((k:Int)<c)=true:=Gqb hlt
    refine Wz [20,12,31,0,25,76,27,40,9,50,175,95,137] ?_
    exact Xr J J J J (Gc [1] J J J)
   ·have hb:decide ((k:Int)<c)=false:=Gqa hlt
    refine Wz [20,12,0,70,6,76,27,40,9,50,175,95,137] ?_
    exact Xr J J J J (Gc [1] J J J)
  | true =>
   obtain⟨hkc2,hkp,hpos,hgo⟩:=hok rfl
   rw[←hgo]
   by_cases hlt:(k:Int)<c
   ·have hb:decide ((k:Int)<c)=true:=Gqb hlt
    have hd2:=X5 s ((q:Int)+(pos:Int)) hs ⟨by omega,by omega⟩
    obtain⟨f,hf⟩:∃ f,c-k=f+1:=⟨c-k-1,by omega⟩
    rw[hf]
    cases hv2:decVar s ((q:Int)+(pos:Int)) with
    |none =>
     rw[hv2] at hd2
     rw[show uiGo s q (f+1) pos=none by rw[uiGo,hv2]]
     have hsg:=S_Signed 0 ⟨by omega,by omega⟩
     refine Wz [20,12,31,0,112,11,99,18] ?_;refine M1 (Z3 J J (hd2) J J J) J J ?_;refine Wz [223,49,2,13,105,33,0] ?_;refine zx (Qj J J (hsg) J) J ?_;refine Wz [101,194,104] ?_
     refine⟨_,(by omega),(fun (k:Nat) (pos:Nat) (acc:List Int) (ok:Bool)=>(⟨_,[(0,S s),(1,I q),(7,I c),(8,I pos),(9,B ok),(10,.o (.c (.ref 0))),(11,I k)],[.row 1 (els acc)]⟩:St)) (k+1) (pos) (acc ++ [signed 0]) (false),⟨k+1,pos,acc ++ [signed 0],false,J,⟨by omega,by simp[hacc],by omega,fun e=>(by cases e),fun _=>rfl,hps⟩,J⟩,Ga [0] J (Kw (els_snocI acc _)) (.c J (.c J (.c J (.c J (.c J (.c J (.c J (.nil))))))))⟩
    |some r =>
     obtain⟨v,m⟩:=r
     rw[hv2] at hd2
     have hm2:=Yt hv2
     have hsg:=S_Signed v ⟨by omega,by omega⟩
     refine Wz [20,12,31,0,112,11,99,18] ?_;refine M1 (Z3 J J (hd2) J J J) J J ?_;refine Wz [223,49,2,13,105,33,0] ?_;refine zx (Qj J J (hsg) J) J ?_;refine Wz [101,194,104] ?_
     refine⟨_,(by omega),(fun (k:Nat) (pos:Nat) (acc:List Int) (ok:Bool)=>(⟨_,[(0,S s),(1,I q),(7,I c),(8,I pos),(9,B ok),(10,.o (.c (.ref 0))),(11,I k)],[.row 1 (els acc)]⟩:St)) (k+1) (pos+m) (acc ++ [signed v]) (true),⟨k+1,pos+m,acc ++ [signed v],true,J,⟨by omega,by simp[hacc],by omega,fun _=>⟨by omega,by omega,by omega,by rw[uiGo,hv2,show c-(k+1)=f by omega]; simp[Option.map_map]; rfl⟩,fun e=>(by cases e),by omega⟩,J⟩,Ga [0] J (Kw (els_snocI acc _)) (.c J (.c J (.c J (.c J (.c J (.c J (.c J (.nil))))))))⟩
   ·have hb:decide ((k:Int)<c)=false:=Gqa hlt
    have hkk:k=c:=by omega
    subst hkk
    rw[show uiGo s q (k-k) pos=some ([],pos) by rw[Nat.sub_self]; rfl]
    refine Wz [20,12,0,70,6,76,27,40,73,13,95,17] ?_
    exact Xr J J J J (Gc [0] J (Kw (by simp)) J)
/-! ### Texts -/
def unpackText (s:ByteArray) (p:Int):Option (ByteArray×Nat):=match decVar s p with
 |none=>none
 |some (n,k)=>if (s.size:Int)-p-k<n then none else some (s.extract (p+k).toNat (p+k+n).toNat,k+n.toNat)
@[reducible] def utR:Option (ByteArray×Nat)→V
 |none => .tu [.c (.rd [] (.v (.string ⟨#[]⟩))),.c (jn 0),.c (bv false)]
 |some (t,k) => .tu [.c (.rd [] (.v (.string t))),.c (jn k),.c (bv true)]
theorem unpackText_some {s t:ByteArray} {p:Int} {j:Nat} (h:unpackText s p=some (t,j)):0≤p∧1≤j∧p+j≤s.size∧t.size+1≤j∧t=s.extract (p+j-t.size).toNat (p+j).toNat:=by
 unfold unpackText at h
 split at h
 ·cases h
 ·rename_i n k hd
  have hm:=Yt hd
  split at h
  ·cases h
  ·simp only[Option.some.injEq,Prod.mk.injEq] at h
   obtain⟨rfl,rfl⟩:=h
   have hsz:(s.extract (p+k).toNat (p+k+n).toNat).size=n.toNat:=by
    rw[Gxl]; omega
   refine⟨hm.1,by omega,by omega,by omega,?_⟩
   rw[hsz]
   congr 1 <;> omega
theorem tu3 {a b:V2} {x y:Int} (h:x=y):V.tu [a,.c (.rd [] (.v (.int .i64 x))),b]=V.tu [a,.c (.rd [] (.v (.int .i64 y))),b]:=by rw[h]
theorem I_UnpackText (s:ByteArray) (p:Int) (hs:s.size≤1099511627776) (hp:I64 p):Con Tryz.prog 307 [] [astr s,ai p] [] (utR (unpackText s p)):=by
 have hd:=Xs s p hs hp
 cases hv:decVar s p with
 |none =>
  rw[hv] at hd
  rw[show unpackText s p=none by rw[unpackText,hv]]
  refine Con.of Tryz.func307 J Tryz.ntmps307 J (fun E => ?_)
  refine Wz [4,95,2,13,126,84,45,161,25,50,95,137] ?_
  exact Xr J J J J (Gc [] J J J)
 | some r =>
  obtain⟨n,k⟩:=r
  rw[hv] at hd
  have hm:=Yt hv
  by_cases hbig:(s.size:Int)-p-k<n
  ·have hb:decide ((s.size:Int)-p-k<n)=true:=Gqb hbig
   rw[show unpackText s p=none by rw[unpackText,hv]; exact if_pos hbig]
   refine Con.of Tryz.func307 J Tryz.ntmps307 J (fun E => ?_)
   refine Wz [4,95,2,13,126,84,81,72,1,31,118,31,118,86,6,50,95,137] ?_
   exact Xr J J J J (Gc [] J J J)
  have hb:decide ((s.size:Int)-p-k<n)=false:=Gqa hbig
  rw[show unpackText s p=some (s.extract (p+k).toNat (p+k+n).toNat,k+n.toNat) by rw[unpackText,hv]; exact if_neg hbig]
  refine Con.of Tryz.func307 J Tryz.ntmps307 J (fun E => ?_)
  refine Wz [4,95,2,13,126,84,81,72,1,31,118,31,118,86,60,99,18,132,18,0,18,237,132,18,95,17] ?_
  exact Xr J J J J (Gc [] J J (tu3 (by omega)))
theorem S_UnpackText (s:ByteArray) (p:Int) (hs:s.size≤1099511627776) (hp:I64 p):Con Tryz.prog 306 [] [astr s,ai p] [] (utR (unpackText s p)):=by
 have hd:=X5 s p hs hp
 cases hv:decVar s p with
 |none =>
  rw[hv] at hd
  rw[show unpackText s p=none by rw[unpackText,hv]]
  refine Con.of Tryz.func306 J Tryz.ntmps306 J (fun E => ?_)
  refine Wz [4,95,2,13,126,84,45,161,25,50,95,137] ?_
  exact Xr J J J J (Gc [] J J J)
 | some r =>
  obtain⟨n,k⟩:=r
  rw[hv] at hd
  have hm:=Yt hv
  by_cases hbig:(s.size:Int)-p-k<n
  ·have hb:decide ((s.size:Int)-p-k<n)=true:=Gqb hbig
   rw[show unpackText s p=none by rw[unpackText,hv]; exact if_pos hbig]
   refine Con.of Tryz.func306 J Tryz.ntmps306 J (fun E => ?_)
   refine Wz [4,95,2,13,126,84,81,72,1,31,118,31,118,86,6,50,95,137] ?_
   exact Xr J J J J (Gc [] J J J)
  have hb:decide ((s.size:Int)-p-k<n)=false:=Gqa hbig
  rw[show unpackText s p=some (s.extract (p+k).toNat (p+k+n).toNat,k+n.toNat) by rw[unpackText,hv]; exact if_neg hbig]
  refine Con.of Tryz.func306 J Tryz.ntmps306 J (fun E => ?_)
  refine Wz [4,95,2,13,126,84,81,72,1,31,118,31,118,86,60,99,18,132,18,0,18,237,132,18,95,17] ?_
  exact Xr J J J J (Gc [] J J (tu3 (by omega)))
@[reducible] def otR:Option ByteArray→V
 |none => .tu [.c (.rd [] (.v (.string ⟨#[]⟩))),.c (bv false)]
 |some t => .tu [.c (.rd [] (.v (.string t))),.c (bv true)]
end
section
open Go.RowKit

theorem S_inputsOk (xs:List Int) (hn:Enc.gd xs):Con Tryz.prog 224 [] [al xs] [] (B (inOk xs)):=by
 have hn1:=hn.1
 have hlx:=Yx xs
 refine Con.of Tryz.func224 J Tryz.ntmps224 J (fun E => ?_)
 refine Wz [32,46] ?_;refine Xj (fun m st=>∃ k:Nat,k+m=xs.length∧((xs.take k).all (fun n=>inR n 0 15)=true)∧st=(⟨_,[(0,L xs),(3,I k)],[]⟩:St)) (xs.length) ⟨_,⟨0,by omega,by simp,J⟩,Gi []⟩ ?_
 rintro m_A _ ⟨k,hk_A,hp_A,rfl⟩
 refine Wz [20,7,37] ?_
 refine Xb J (fun h => ?_) (fun h => ?_)
 ·have h3:k<xs.length:=by have:=Gqe h; omega
  have hat:=Yv h3
  refine Wz [11,13,59] ?_;refine zx (Qj J J (Ya xs[k] 0 15) J) J ?_;refine Wz [9,3] ?_
  refine Xb J (fun h4 => ?_) (fun h4 => ?_)
  ·refine Wz [26,191] ?_
   refine Wz [64] ?_
   exact Gb J (Gc [] J J (Xk (all_no h3 (by simpa using h4)).symm))
  ·refine Wz [157,168,18] ?_
   refine Wz [2] ?_
   exact⟨xs.length-(k+1),by omega,_,⟨k+1,by omega,Yi hp_A h3 (by simpa using h4),J⟩,Gi []⟩
 ·have h3:¬((k:Int)<(els xs).length):=Gqf h
  refine Wz [27,26,48] ?_
  exact Gb J (Gc [] J J (Xk (G4 hp_A).symm))
end
section
open Go.RowKit
end
section
open Go.RowKit
end
section
open Go.RowKit
end
section
open Go.RowKit

/-! ### Numbers -/
theorem bytesL_len {s:ByteArray} {q k:Nat} (h:q+k≤s.size):(bytesL s q k).length=k:=by
 have:s.data.toList.length=s.size:=by simp
 simp[bytesL]; omega
theorem dvGo_canon (s:ByteArray) (q:Nat):∀ (f k:Nat) (m:Int) (j:Nat),q+k≤s.size→(∀ a∈bytesL s q k,128≤a.toNat)→dvGo s q (dval (bytesL s q k):Nat) k f=some (m,j)→encVar m=bytesL s q j:=by
 intro f
 induction f with
 |zero=>intro k m j _ _ h; simp[dvGo] at h
 | succ f ih =>
  intro k m j hqk hall h
  have hlen:=bytesL_len hqk
  rw[dvGo] at h
  split at h
  ·rename_i hlt
   obtain⟨b,hb,hcb⟩:=bytesL_succ hlt
   have hval:(dval (bytesL s q k):Int)+byteAt s (q+k)%128*2 ^ (7*k)=((dval (bytesL s q (k+1)):Nat):Int):=by
    rw[hb,dval_snoc,hlen,hcb]
    push_cast
    rfl
   rw[hval] at h
   split at h
   ·rename_i h128
    refine ih (k+1) m j (by omega) (fun a ha => ?_) h
    rw[hb] at ha
    rcases Gqp.1 ha with ha | ha
    ·exact hall a ha
    ·simp only[Gxf] at ha
     rw[ha]; omega
   ·rename_i h128
    split at h
    ·cases h
    ·rename_i hbad
     simp only[Option.some.injEq,Prod.mk.injEq] at h
     obtain⟨rfl,rfl⟩:=h
     have hcan:=canon (b:=b) (by omega) (bytesL s q k) hall
     have hnil:bytesL s q k = []↔k=0:=by rw[←List.length_eq_zero_iff,hlen]
     rw[←hb,hnil] at hcan
     rw[encVar,if_pos (by omega),show ((dval (bytesL s q (k+1)):Nat):Int).toNat=dval (bytesL s q (k+1)) by omega]
     exact hcan.2 (by omega)
  ·cases h
theorem decVar_canon {s:ByteArray} {p m:Int} {j:Nat} (h:decVar s p=some (m,j)):encVar m=bytesL s p.toNat j:=by
 unfold decVar at h
 split at h
 ·exact dvGo_canon s p.toNat 6 0 m j (by omega) (by simp[bytesL]) (by simpa[bytesL,dval] using h)
 ·cases h
theorem signless_signed {u:Int} (h:0≤u∧u≤1099511627775):signless (signed u)=u:=by
 unfold signed
 rw[if_pos h]
 split
 ·rw[signless,if_pos (by omega),if_pos (by omega)]; omega
 ·rw[signless,if_pos (by omega),if_neg (by omega)]; omega
/-! ### Lists -/
theorem bytesL_app {s:ByteArray} {q j k:Nat}:bytesL s q j++bytesL s (q+j) k=bytesL s q (j+k):=by
 unfold bytesL
 rw[←List.drop_drop,List.take_add]
def packB (l:List Int):List UInt8:=l.flatMap fun x=>encVar (signless x)
theorem uiGo_canon (s:ByteArray) (p:Nat):∀ (c pos:Nat) (l:List Int) (j:Nat),uiGo s p c pos=some (l,j)→pos≤j∧packB l=bytesL s (p+pos) (j-pos)∧∀ x∈l,0≤signless x:=by
 intro c
 induction c with
 |zero =>
  intro pos l j h
  simp only[uiGo,Option.some.injEq,Prod.mk.injEq] at h
  obtain⟨rfl,rfl⟩:=h
  exact⟨Gqk _,by simp[packB,bytesL],fun x hx=>by simp at hx⟩
 | succ c ih =>
  intro pos l j h
  rw[uiGo] at h
  split at h
  ·cases h
  ·rename_i v m hd
   obtain⟨r,h1,h2⟩:=Option.map_eq_some_iff.1 h
   simp only[Prod.mk.injEq] at h2
   obtain⟨rfl,rfl⟩:=h2
   have hm:=Yt hd
   have hcn:=decVar_canon hd
   obtain⟨a1,a2,a3⟩:=ih (pos+m) r.1 r.2 h1
   have hsg:=signless_signed (u:=v) (by omega)
   refine⟨by omega,?_,fun x hx => ?_⟩
   ·rw[packB,List.flatMap_cons,hsg,hcn,show ((p:Int)+(pos:Int)).toNat=p+pos by omega]
    show bytesL s (p+pos) m++packB r.1=_
    rw[a2,show p+(pos+m)=p+pos+m by omega,bytesL_app]
    congr 1
    omega
   ·rcases List.mem_cons.1 hx with rfl | hx
    ·rw[hsg]; omega
    ·exact a3 x hx
theorem unpackInts_canon {s:ByteArray} {p:Int} {l:List Int} {j:Nat} (h:unpackInts s p=some (l,j)):packInts l=bs (bytesL s p.toNat j):=by
 unfold unpackInts at h
 split at h
 ·cases h
 ·rename_i n k hd
  have hm:=Yt hd
  have hcn:=decVar_canon hd
  obtain⟨a1,a2,a3⟩:=uiGo_canon s _ _ _ _ _ h
  obtain⟨b1,b2,b3,b4⟩:=uiGo_some s _ _ _ _ _ h
  have hall:(l.all fun x=>decide (0≤signless x))=true:=Gqm.2 fun x hx=>Gqb (a3 x hx)
  rw[packInts,if_pos hall,packK,Gxd,show (l.length:Int)=n by omega,hcn]
  show bs (bytesL s p.toNat k++packB l)=_
  rw[a2,bytesL_app]
  congr 2
  omega
/-! ### Texts -/
/-! ### Columns -/
/-! ### DecodeStream -/
theorem bytesL_all (s:ByteArray) (k:Nat) (h:k≤s.size):bs (bytesL s 0 k)=s↔k=s.size:=by
 constructor
 ·intro e
  have:=congrArg ByteArray.size e
  rw[Yp,bytesL_len (by omega)] at this
  exact this
 ·intro e
  subst e
  unfold bytesL
  rw[List.drop_zero,show s.size=s.data.toList.length by simp,Gxd,bs_of]
end
section
open Go.RowKit

def replayOk (r:TReplay):Bool:=levelOk r.Level&&inR r.Players 1 4&&inR r.Seed 0 65535&&inR r.Every 1 100&&decide (r.Rows.length≤400)&&(r.Rows.all fun row=>rowOk row r.Players)&&decide ((r.Keys.length:Int)=(r.Rows.length:Int)/r.Every)
theorem replay_no {r:TReplay} (h:((!levelOk r.Level || !inR r.Players 1 4) || !inR r.Seed 0 65535)=true∨((!inR r.Every 1 100) || decide (400<(r.Rows.length:Int)))=true∨(r.Rows.all fun row=>rowOk row r.Players)=false):replayOk r=false:=by
 unfold replayOk
 rcases h with h | h | h
 ·simp only[Gqr,Gq7] at h
  rcases h with (h | h) | h <;> simp[h]
 ·simp only[Gqr,Gq7,decide_eq_true_eq] at h
  rcases h with h | h
  ·simp[h]
  ·simp[show ¬r.Rows.length≤400 by omega]
 ·simp[h]
theorem replay_yes {r:TReplay} (h1:((!levelOk r.Level || !inR r.Players 1 4) || !inR r.Seed 0 65535)=false) (h2:((!inR r.Every 1 100) || decide (400<(r.Rows.length:Int)))=false) (h3:(r.Rows.all fun row=>rowOk row r.Players)=true):replayOk r=decide ((r.Keys.length:Int)=(r.Rows.length:Int)/r.Every):=by
 simp only[Gqn,Gq4,decide_eq_false_iff_not] at h1 h2
 unfold replayOk
 rw[h3]
 simp[h1,h2,show r.Rows.length≤400 by omega]

theorem Xv (x:TReplay) (hg:Enc.gd x):Con Tryz.prog 198 [] [ag x] [] (B (replayOk x)):=by
 obtain⟨g_Level,g_Players,g_Seed,g_Every,g_Rows,g_Keys⟩:=hg
 have g1:=g_Rows.1
 have g2:=g_Keys.1
 have hlr:=Yx x.Rows
 have hlk:=Yx x.Keys
 have cl:=Xu x.Level g_Level
 refine Con.of Tryz.func198 J Tryz.ntmps198 J (fun E => ?_)
 refine Wz [82,211] ?_;refine zx (Qj J J (cl) J) J ?_;refine Wz [9,111] ?_;refine zx (Vz J (.hit (.hit .stop)) (fun hgrd=>Qj J J (Xx x.Players 1 4) J)) J ?_;refine Wz [139,80,111] ?_;refine zx (Vz J (.hit (.hit .stop)) (fun hgrd=>Qj J J (Xx x.Seed 0 65535) J)) J ?_;refine Wz [139,103] ?_
 refine Xb J (fun h1 => ?_) (fun h1 => ?_)
 ·refine Wz [98] ?_
  exact Gb J (Gc [] J J (Xk (replay_no (.inl h1)).symm))
 refine AWP.pre (st':=(⟨_,[(1,.o (.c (.ptr 0 0)))],[.box ((Enc.e x).map (V1.rd []))]⟩:St)) ?_ (Gi [0])
 refine Wz [22,42] ?_;refine zx (Qj J J (Xx x.Every 1 100) J) J ?_;refine Wz [9,111,209,255,103] ?_
 refine Xb J (fun h2 => ?_) (fun h2 => ?_)
 ·refine Wz [98] ?_
  exact Gb J (Gc [] J J (Xk (replay_no (.inr (.inl (by rwa[hlr] at h2)))).symm))
 rw[hlr] at h2
 have hE:1≤x.Every:=by
  simp only[Gqn,Gq4,Za] at h2
  exact h2.1.1
 refine Wz [22,42,7,142,44] ?_;refine Xj (fun m st=>∃ k:Nat,k+m=x.Rows.length∧((x.Rows.take k).all (fun row=>rowOk row x.Players)=true)∧st=(⟨_,[(1,.o (.c (.ptr 0 0))),(32,L x.Rows),(33,I (els x.Rows).length),(34,I k)],[.box ((Enc.e x).map (V1.rd []))]⟩:St)) (x.Rows.length) ⟨_,⟨0,by omega,by simp,J⟩,Gi [0]⟩ ?_
 rintro m_A _ ⟨k,hk_A,hp_A,rfl⟩
 refine Wz [4,37,8] ?_
 refine Xb J (fun h => ?_) (fun h => ?_)
 ·have h3:k<x.Rows.length:=by have:=Gqe h; omega
  have hat:=Yv h3
  have hc:=I_rowOk x.Rows[k] x.Players (g_Rows.2 _ (Gqj h3))
  refine Wz [11,4,59,49,16] ?_;refine zx (Qj J J (hc) J) J ?_;refine Wz [9,3] ?_
  refine Xb J (fun h4 => ?_) (fun h4 => ?_)
  ·refine Wz [26,191] ?_
   refine Wz [64] ?_
   exact Gb J (Gc [] J J (Xk (replay_no (.inr (.inr (all_no h3 (by simpa using h4))))).symm))
  ·refine Wz [157,122,299,0,51] ?_
   refine Q0 ?_
   exact⟨x.Rows.length-(k+1),by omega,_,⟨k+1,by omega,Yi hp_A h3 (by simpa using h4),J⟩,Gi [0]⟩
 ·have h3:¬((k:Int)<(els x.Rows).length):=Gqf h
  refine Wz [27,8] ?_;refine Xi u8_15 [[],[44],[44,45],[],[47],[47,48],[],[50],[47,48,49,50,51],[44,45,46,47,48,49,50,51,52],[44,45,46,47,48,49,50,51,52,53]] [[47,48,49,50,51,52],[47,48,49,50,51,52],[47,48,49,50,51,52],[44,45,46,50,51],[44,45,46,50,51],[44,45,46,50,51],[44,45,46,47,48,49],[44,45,46,47,48,49],[44,45,46],[],[]] J ?_;refine Wz [28,277,28,277,28,278] ?_;refine Vk (Z5 J J J J) J ?_;refine Wz [171,21,3,74,48] ?_
  exact Gb J (Gc [] J J (Xk (by rw[replay_yes h1 h2 (G4 hp_A),hlr,hlk])))
theorem X7 (x:TReplay) (hg:Enc.gd x):Con Tryz.prog 185 [] [ag x] [] (B (replayOk x)):=by
 obtain⟨g_Level,g_Players,g_Seed,g_Every,g_Rows,g_Keys⟩:=hg
 have g1:=g_Rows.1
 have g2:=g_Keys.1
 have hlr:=Yx x.Rows
 have hlk:=Yx x.Keys
 have cl:=S_LevelOk x.Level g_Level
 refine Con.of Tryz.func185 J Tryz.ntmps185 J (fun E => ?_)
 refine Wz [82,211] ?_;refine zx (Qj J J (cl) J) J ?_;refine Wz [9,111] ?_;refine zx (Vz J (.hit (.hit .stop)) (fun hgrd=>Qj J J (Ya x.Players 1 4) J)) J ?_;refine Wz [139,80,111] ?_;refine zx (Vz J (.hit (.hit .stop)) (fun hgrd=>Qj J J (Ya x.Seed 0 65535) J)) J ?_;refine Wz [139,80,111] ?_;refine zx (Vz J (.hit (.hit .stop)) (fun hgrd=>Qj J J (Ya x.Every 1 100) J)) J ?_;refine Wz [139,80,111,209,255,103] ?_
 refine Xb J (fun h1 => ?_) (fun h1 => ?_)
 ·rw[hlr,Bool.or_assoc,Gqr] at h1
  refine Wz [98] ?_
  exact Gb J (Gc [] J J (Xk (replay_no (h1.imp_right .inl)).symm))
 rw[hlr,Bool.or_assoc,Gqn] at h1
 have hE:1≤x.Every:=by
  have h2:=h1.2
  simp only[Gqn,Gq4,Za] at h2
  exact h2.1.1
 refine AWP.pre (st':=(⟨_,[(1,.o (.c (.ptr 0 0)))],[.box ((Enc.e x).map (V1.rd []))]⟩:St)) ?_ (Gi [0])
 refine Wz [22,46] ?_;refine Xj (fun m st=>∃ k:Nat,k+m=x.Rows.length∧((x.Rows.take k).all (fun row=>rowOk row x.Players)=true)∧st=(⟨_,[(1,.o (.c (.ptr 0 0))),(3,I k)],[.box ((Enc.e x).map (V1.rd []))]⟩:St)) (x.Rows.length) ⟨_,⟨0,by omega,by simp,J⟩,Gi [0]⟩ ?_
 rintro m_A _ ⟨k,hk_A,hp_A,rfl⟩
 refine Wz [40,16,7,37] ?_
 refine Xb J (fun h => ?_) (fun h => ?_)
 ·have h3:k<x.Rows.length:=by have:=Gqe h; omega
  have hat:=Yv h3
  have hc:=S_rowOk x.Rows[k] x.Players (g_Rows.2 _ (Gqj h3))
  refine Wz [11,8] ?_;refine Xi [[],[0],[],[0,1,2],(u9 4),[],[5],(u9 7),(u9 8)] [[],[39],[],[39,40,41],[39,40,41,42],[],[44],[39,40,41,42,43,44,45],[39,40,41,42,43,44,45,46]] [[41,44,45],[41,44,45],[39,40,44,45],[44,45],[44,45],[39,40,41,42,43],[39,40,41,42,43],[],[]] J ?_;refine Wz [28,5,85,28] ?_;refine Vk (Qj J J (hc) J) J ?_;refine Wz [147,21,3] ?_
  refine Xb J (fun h4 => ?_) (fun h4 => ?_)
  ·refine Wz [26,191] ?_
   refine Wz [64] ?_
   exact Gb J (Gc [] J J (Xk (replay_no (.inr (.inr (all_no h3 (by simpa using h4))))).symm))
  ·refine Wz [157,168,18] ?_
   refine Wz [2] ?_
   exact⟨x.Rows.length-(k+1),by omega,_,⟨k+1,by omega,Yi hp_A h3 (by simpa using h4),J⟩,Gi [0]⟩
 ·have h3:¬((k:Int)<(els x.Rows).length):=Gqf h
  refine Wz [27,8] ?_;refine Xi u8_15 [[],[48],[48,49],[],[51],[51,52],[],[54],[51,52,53,54,55],[48,49,50,51,52,53,54,55,56],[48,49,50,51,52,53,54,55,56,57]] [[51,52,53,54,55,56],[51,52,53,54,55,56],[51,52,53,54,55,56],[48,49,50,54,55],[48,49,50,54,55],[48,49,50,54,55],[48,49,50,51,52,53],[48,49,50,51,52,53],[48,49,50],[],[]] J ?_;refine Wz [28,277,28,277,28,278] ?_;refine Vk (Z5 J J J J) J ?_;refine Wz [171,21,3,74,48] ?_
  exact Gb J (Gc [] J J (Xk (by rw[replay_yes h1.1 h1.2 (G4 hp_A),hlr,hlk])))
end
section
open Go.RowKit

inductive Den1:V1→V1→Prop
 |same (x:V1):Den1 x x
 |nil (qs:List Nat) (k:Nat):Den1 (.rd qs (.v (.slice none 0 0))) (.rd qs (.sl k []))
inductive DenL:List V1→List V1→Prop
 |nil:DenL [] []
 |cons {x y:V1} {xs ys:List V1} (h:Den1 x y) (t:DenL xs ys):DenL (x::xs) (y::ys)
inductive Den2:V2→V2→Prop
 |same (x:V2):Den2 x x
 |ag {xs ys:List V1} (h:DenL xs ys):Den2 (.ag xs) (.ag ys)
inductive DenA:List V2→List V2→Prop
 |nil:DenA [] []
 |cons {x y:V2} {xs ys:List V2} (h:Den2 x y) (t:DenA xs ys):DenA (x::xs) (y::ys)
section
variable {w:World} {H:Hs} {F:Nat→Prop}
theorem Den1.r {x y:V1} (h:Den1 x y) {v:Value} (hx:R1 w H F x v):R1 w H F y v:=by
 cases h with
 |same=>exact hx
 |nil qs k=>obtain⟨rfl,_⟩:=RO.plain hx; exact .nil _ _ _ (by simp)
theorem DenL.r:∀ {xs ys:List V1},DenL xs ys→xs.length=ys.length∧∀ (i:Nat) (y:V1),ys[i]? = some y→∃ x,xs[i]? = some x∧Den1 x y
 |_,_,.nil=>⟨rfl,fun i y h=>by simp at h⟩
 |_,_,.cons (x:=x) h t=>by
  obtain⟨h1,h2⟩:=DenL.r t
  refine⟨by simp[h1],fun i y hy => ?_⟩
  cases i with
  |zero=>simp at hy; subst hy; exact⟨x,rfl,h⟩
  |succ i=>simpa using h2 i y (by simpa using hy)
theorem Den2.r {x y:V2} (h:Den2 x y) {v:Value} (hx:R2 w H F x v):R2 w H F y v:=by
 cases h with
 |same=>exact hx
 |ag h =>
  obtain⟨h1,h2⟩:=h.r
  obtain⟨us,e,hl,hr⟩:=hx
  refine⟨us,e,by omega,fun i y u h3 h4 => ?_⟩
  obtain⟨x,h5,h6⟩:=h2 i y h3
  exact h6.r (hr i x u h5 h4)
theorem DenA.r:∀ {xs ys:List V2},DenA xs ys→xs.length=ys.length∧∀ (i:Nat) (y:V2),ys[i]? = some y→∃ x,xs[i]? = some x∧Den2 x y
 |_,_,.nil=>⟨rfl,fun i y h=>by simp at h⟩
 |_,_,.cons (x:=x) h t=>by
  obtain⟨h1,h2⟩:=DenA.r t
  refine⟨by simp[h1],fun i y hy => ?_⟩
  cases i with
  |zero=>simp at hy; subst hy; exact⟨x,rfl,h⟩
  |succ i=>simpa using h2 i y (by simpa using hy)
theorem Con.den {P:Program} {f:FuncId} {objs objs':List Ob} {args args2:List V2} {res:V} (hc:Con P f objs args objs' res) (h:DenA args2 args):Con P f objs args2 objs' res:=fun w H F vs hok hob hvl hr=>by
 obtain⟨h1,h2⟩:=h.r
 exact hc w H F vs hok hob (by omega) fun i y v hy hv=>by
  obtain⟨x,h3,h4⟩:=h2 i y hy
  exact h4.r (hr i x v h3 hv)
end
def nilV:V1 := .rd [] (.v (.slice none 0 0))
theorem Xy (x:TLevel) (hg:Enc.gd x) (hL:x.Rows.length≤1048576):Con Tryz.prog 65 [] [ag x] [.row 1 (els x.Rows)] (.o (.ag [.ref 0])):=by
 have hlx:=Yx x.Rows
 have hg1:=hg.1
 refine Con.of Tryz.func65 J Tryz.ntmps65 J (fun E => ?_)
 refine Wz [53,3,23] ?_;refine M_appnil J J J J J J J J (Yy _) (els_k _) (by omega) (by omega) ?_;refine Wz [77,56,74,48] ?_
 exact Xm J J J J (Gc [2] J J J)
theorem X9 (x:TLevel) (hg:Enc.gd x) (hL:x.Rows.length≤1048576):Con Tryz.prog 56 [] [ag x] [.row 1 (els x.Rows)] (.o (.ag [.ref 0])):=by
 have hlx:=Yx x.Rows
 have hg1:=hg.1
 have h00:([]:List (List T)).length=0:=rfl
 refine Con.of Tryz.func56 J Tryz.ntmps56 J (fun E => ?_)
 refine Wz [53,3,4,175,16] ?_;refine M_app J J J J J J J J J J (Yy _) (els_k _) (by omega) (by omega) ?_;refine Wz [77,56,74,48] ?_
 exact Xm J J J J (Gc [2] J J J)
def zeroReplay:TReplay:=⟨⟨[]⟩,0,0,0,[],[]⟩
def newReplay (l:TLevel) (p s e:Int):TReplay:=if replayOk ⟨l,p,s,e,[],[]⟩=true then ⟨l,p,s,e,[],[]⟩ else zeroReplay
theorem I_NewReplay (l:TLevel) (p s e:Int) (hl:Enc.gd l) (hL:l.Rows.length≤1048576) (hp:I64 p) (hs:I64 s) (he:I64 e):Con Tryz.prog 107 [] [ag l,ai p,ai s,ai e] (ownO (Enc.e (newReplay l p s e))) (.tu [.ag (ownV 0 (Enc.e (newReplay l p s e))),.c (.rd [] (.v (.bool (replayOk ⟨l,p,s,e,[],[]⟩))))]):=by
 have hc:=(Xv ⟨l,p,s,e,[],[]⟩ ⟨hl,hp,hs,he,⟨by simp,fun x hx=>by simp at hx⟩,⟨by simp,fun x hx=>by simp at hx⟩⟩).den (args2 := [.ag [.rd [] (sl l.Rows),.rd [] (.v (.int .i64 p)),.rd [] (.v (.int .i64 s)),.rd [] (.v (.int .i64 e)),.rd [] (.v (.slice none 0 0)),.rd [] (.v (.slice none 0 0))]])
  (.cons (.ag (.cons (.same _) (.cons (.same _) (.cons (.same _) (.cons (.same _) (.cons (.nil _ _) (.cons (.nil _ _) .nil))))))) .nil)
 cases hr:replayOk ⟨l,p,s,e,[],[]⟩ with
 |false =>
  rw[hr] at hc
  rw[show newReplay l p s e=zeroReplay by rw[newReplay,hr]; rfl]
  refine Con.of Tryz.func107 J Tryz.ntmps107 J (fun E => ?_)
  refine Wz [53,2,14] ?_;refine M1 (Z3 J J (Xy l hl hL) J J J) J J ?_;refine Wz [132,0,77,94,55] ?_;refine zx (Qj J J (hc) J) J ?_;refine Wz [9,50,77,63] ?_
  exact qo J J (Yc [1,1,1] [4,5,6] J J (by decide) J J J)
 |true =>
  rw[hr] at hc
  rw[show newReplay l p s e=⟨l,p,s,e,[],[]⟩ by rw[newReplay,hr]; rfl]
  refine Con.of Tryz.func107 J Tryz.ntmps107 J (fun E => ?_)
  refine Wz [53,2,14] ?_;refine M1 (Z3 J J (Xy l hl hL) J J J) J J ?_;refine Wz [132,0,77,94,55] ?_;refine zx (Qj J J (hc) J) J ?_;refine Wz [73,14,36,17] ?_
  exact qo J J (Yc [1,1] [2,4,5] J J (by decide) J J J)
theorem S_NewReplay (l:TLevel) (p s e:Int) (hl:Enc.gd l) (hL:l.Rows.length≤1048576) (hp:I64 p) (hs:I64 s) (he:I64 e):Con Tryz.prog 100 [] [ag l,ai p,ai s,ai e] (ownO (Enc.e (newReplay l p s e))) (.tu [.ag (ownV 0 (Enc.e (newReplay l p s e))),.c (.rd [] (.v (.bool (replayOk ⟨l,p,s,e,[],[]⟩))))]):=by
 have hc:=(X7 ⟨l,p,s,e,[],[]⟩ ⟨hl,hp,hs,he,⟨by simp,fun x hx=>by simp at hx⟩,⟨by simp,fun x hx=>by simp at hx⟩⟩).den (args2 := [.ag [.rd [] (sl l.Rows),.rd [] (.v (.int .i64 p)),.rd [] (.v (.int .i64 s)),.rd [] (.v (.int .i64 e)),.rd [] (.v (.slice none 0 0)),.rd [] (.v (.slice none 0 0))]])
  (.cons (.ag (.cons (.same _) (.cons (.same _) (.cons (.same _) (.cons (.same _) (.cons (.nil _ _) (.cons (.nil _ _) .nil))))))) .nil)
 cases hr:replayOk ⟨l,p,s,e,[],[]⟩ with
 |false =>
  rw[hr] at hc
  rw[show newReplay l p s e=zeroReplay by rw[newReplay,hr]; rfl]
  refine Con.of Tryz.func100 J Tryz.ntmps100 J (fun E => ?_)
  refine Wz [53,2,14] ?_;refine M1 (Z3 J J (X9 l hl hL) J J J) J J ?_;refine Wz [132,0,77,94,55] ?_;refine zx (Qj J J (hc) J) J ?_;refine Wz [9,50,77,63] ?_
  exact qo J J (Yc [1,1,1] [4,5,6] J J (by decide) J J J)
 |true =>
  rw[hr] at hc
  rw[show newReplay l p s e=⟨l,p,s,e,[],[]⟩ by rw[newReplay,hr]; rfl]
  refine Con.of Tryz.func100 J Tryz.ntmps100 J (fun E => ?_)
  refine Wz [53,2,14] ?_;refine M1 (Z3 J J (X9 l hl hL) J J J) J J ?_;refine Wz [132,0,77,94,55] ?_;refine zx (Qj J J (hc) J) J ?_;refine Wz [73,14,36,17] ?_
  exact qo J J (Yc [1,1] [2,4,5] J J (by decide) J J J)
end
section
open Go.RowKit

theorem Clone_ints (xs:List Int) (hne:0<xs.length) (hL:xs.length≤1099511627776):Con Tryz.prog 260 [] [al xs] [.row 1 (els xs)] (.o (.c (.ref 0))):=by
 have hlx:=Yx xs
 have hlp:0<(els xs).length:=by omega
 refine Con.of Tryz.func260 J Tryz.ntmps260 J (fun E => ?_)
 have h00:([]:List (List T)).length=0:=rfl
 refine Wz [87] ?_;refine zx (q_slnil J J J J hlp) J ?_;refine Wz [41,4,175,0] ?_;refine M_app J J J J J J J J J J (Yy _) (els_k _) (by omega) (by omega) ?_;refine Wz [17] ?_
 exact Gb J (Gc [0] J J J)
@[reducible] def jv (n:Int):V1 := .rd [] (.v (.int .i64 n))
def bodyOf (l:List Int):TBody:=⟨l.getD 0 0,l.getD 1 0,l.getD 2 0,l.getD 3 0,l.getD 4 0,l.getD 5 0,l.getD 6 0,l.getD 7 0,l.getD 8 0⟩
def bodiesOf (l:List Int) (n:Nat):List TBody:=(List.range n).map fun k=>bodyOf (l.drop (9*k))
def zeroWorld:TWorld:=⟨⟨[]⟩,0,0,[],[]⟩
def worldOf (lv:TLevel) (l:List Int):TWorld:=⟨lv,l.getD 0 0,l.getD 1 0,(l.drop 3).take (l.getD 2 0).toNat,bodiesOf (l.drop (3+(l.getD 2 0).toNat)) ((l.length-3-(l.getD 2 0).toNat)/9)⟩
def formOk (l:List Int):Prop:=3≤l.length∧(1≤l.getD 2 0∧l.getD 2 0≤4)∧3+l.getD 2 0≤l.length∧((l.length:Int)-3-l.getD 2 0)%9=0
noncomputable def readWorld (lv:TLevel) (s:ByteArray):Option TWorld:=match unpackInts s 0 with
 |none=>none
 |some (l,pos)=>@ite _ (pos=s.size∧formOk l∧worldOk (worldOf lv l)=true) (Classical.propDecidable _) (some (worldOf lv l)) none
theorem Ks {lv:TLevel} {s:ByteArray} (h:unpackInts s 0=none):readWorld lv s=none:=by rw[readWorld,h]
theorem Kt {lv:TLevel} {s:ByteArray} {l:List Int} {pos:Nat} (h:unpackInts s 0=some (l,pos)) (hp:pos=s.size∧formOk l∧worldOk (worldOf lv l)=true):readWorld lv s=some (worldOf lv l):=by
 rw[readWorld,h]
 exact @if_pos _ (Classical.propDecidable _) hp _ _ _
theorem Kr {lv:TLevel} {s:ByteArray} {l:List Int} {pos:Nat} (h:unpackInts s 0=some (l,pos)) (hp:¬(pos=s.size∧formOk l∧worldOk (worldOf lv l)=true)):readWorld lv s=none:=by
 rw[readWorld,h]
 exact @if_neg _ (Classical.propDecidable _) hp _ _ _
@[reducible] def rwW (r:Option TWorld):TWorld:=r.getD zeroWorld
@[reducible] def rwB (r:Option TWorld):Bool:=r.isSome
theorem Ym (l:List Int) (n:Nat):(bodiesOf l n).length=n:=by simp[bodiesOf]
theorem bodiesOf_snoc (l:List Int) (n:Nat):bodiesOf l (n+1)=bodiesOf l n ++ [bodyOf (l.drop (9*n))]:=by
 rw[bodiesOf,List.range_succ,List.map_append]
 rfl
theorem bodyOf_ints {l:List Int} (h:9≤l.length):bodyInts (bodyOf l)=l.take 9:=by
 match l,h with
 |a::b::c::d::e::f::g::i::j::r,_=>rfl
theorem bodiesOf_ints:∀ (n:Nat) (l:List Int),9*n≤l.length→(bodiesOf l n).flatMap bodyInts=l.take (9*n)
 |0,l,_=>by simp[bodiesOf]
 |n+1,l,h=>by
  rw[bodiesOf_snoc,List.flatMap_append,bodiesOf_ints n l (by omega),List.flatMap_singleton,bodyOf_ints (by simp; omega),Nat.mul_succ,List.take_add]
theorem bodyOf_gd {l:List Int} (h:∀ x∈l,I64 x):Enc.gd (bodyOf l):=by
 have hd:∀ i,I64 (l.getD i 0):=fun i=>by
  rw[Gqc]
  cases hi:l[i]? with
  |none=>exact⟨by decide,by decide⟩
  |some x=>exact h x (Gqq hi)
 exact⟨hd 0,hd 1,hd 2,hd 3,hd 4,hd 5,hd 6,hd 7,hd 8⟩
theorem worldOf_gd {lv:TLevel} {l:List Int} (hlv:Enc.gd lv) (h:∀ x∈l,I64 x) (hL:l.length≤1099511627776):Enc.gd (worldOf lv l):=by
 have hd:∀ i,I64 (l.getD i 0):=fun i=>by
  rw[Gqc]
  cases hi:l[i]? with
  |none=>exact⟨by decide,by decide⟩
  |some x=>exact h x (Gqq hi)
 refine⟨hlv,hd 0,hd 1,⟨?_,fun x hx=>h x (Gx0 (Gxk hx))⟩,⟨?_,fun b hb => ?_⟩⟩
 ·show ((l.drop 3).take (l.getD 2 0).toNat).length≤_
  simp; omega
 ·show (bodiesOf _ _).length≤_
  rw[Ym]
  have:(l.length-3-(l.getD 2 0).toNat)/9≤l.length:=by omega
  omega
 ·obtain⟨k,hk,rfl⟩:=Gqt.1 (show b∈(List.range _).map _ from hb)
  exact bodyOf_gd fun x hx=>h x (Gx0 (Gx0 hx))
theorem worldOf_ints {lv:TLevel} {l:List Int} (h:formOk l):worldInts (worldOf lv l)=l:=by
 obtain⟨h3,h4,h5,h6⟩:=h
 obtain⟨p,hp⟩:∃ p:Nat,l.getD 2 0=p:=⟨(l.getD 2 0).toNat,by omega⟩
 match l,h3 with
 | a::b::c::r,_ =>
  have hc:c=p:=by simpa using hp
  subst hc
  simp only[Gqx] at h5 h6
  simp only[List.getD_cons_succ,List.getD_cons_zero] at h4 h5 h6
  have hl:((r.take p).length:Int)=p:=by simp; omega
  show ([a,b,((((a::b::(p:Int)::r).drop 3).take ((p:Int)).toNat).length:Int)]++((a::b::(p:Int)::r).drop 3).take ((p:Int)).toNat)++(bodiesOf ((a::b::(p:Int)::r).drop (3+((p:Int)).toNat)) (((a::b::(p:Int)::r).length-3-((p:Int)).toNat)/9)).flatMap bodyInts=_
  rw[Int.toNat_natCast]
  have hdr:(a::b::(p:Int)::r).drop (3+p)=r.drop p:=by
   rw[←List.drop_drop]; rfl
  have hd3:(a::b::(p:Int)::r).drop 3=r:=rfl
  have hlen:(a::b::(p:Int)::r).length-3-p=(r.drop p).length:=by simp
  have h9:9*((r.drop p).length/9)=(r.drop p).length:=by
   have:(r.drop p).length=r.length-p:=by simp
   omega
  rw[hdr,hd3,hlen,bodiesOf_ints _ _ (by omega),h9,Gxd,hl]
  simp
theorem row7 {a b c d e f:Ob} {k:Nat} {x y:List (List T)} (h:x=y) : [a,b,c,d,e,f,Ob.row k x] = [a,b,c,d,e,f,Ob.row k y]:=by rw[h]
theorem rdE {ps:List Nat} {k:Nat} {a b:List (List T)} (h:a=b):V.o (.c (.rd ps (.sl k a)))=V.o (.c (.rd ps (.sl k b))):=by rw[h]
theorem Y0 {α:Type} [Enc α] (xs:List α) (n:Nat):els (xs.take n)=(els xs).take n:=List.map_take
theorem els_dropE {α:Type} [Enc α] (xs:List α) (n:Nat):els (xs.drop n)=(els xs).drop n:=List.map_drop
theorem Ys {rest:List Int} {m:Nat} (h:9*m+9≤rest.length) {j:Nat} (hj:j<9) (a b:Int) (ha:a=9*m+9) (hb:b=9*m) (i:Int) (hi:i=j):(((els rest).take a.toNat).drop b.toNat)[i.toNat]? = some [.v (.int .i64 ((rest.drop (9*m)).getD j 0))]:=by
 subst ha hb hi
 rw[show ((9:Int)*(m:Int)+9).toNat=9*m+9 by omega,show ((9:Int)*(m:Int)).toNat=9*m by omega,Int.toNat_natCast,Gq5,Gq9,if_pos (by omega),Gqc,Gq5,els,Gqh,Gqd (by omega)]
 rfl
theorem Yw {l:List Int} {j:Nat} (h:j<l.length) (i:Int) (hi:i=j):(els l)[i.toNat]? = some [.v (.int .i64 (l.getD j 0))]:=by
 subst hi
 rw[Int.toNat_natCast,Gqc,els,Gqh,Gqd h]
 rfl
end
section
open Go.RowKit

theorem byte_drop {s:ByteArray} {q:Nat} {b:UInt8} {r:List UInt8} (h:s.data.toList.drop q=b::r):q<s.size∧byteAt s q=(b.toNat:Int):=by
 have hl:q<s.data.toList.length:=by
  rcases Gqo q s.data.toList.length with h1 | h1
  ·exact h1
  ·rw[List.drop_eq_nil_of_le h1] at h; cases h
 have hs:s.data.toList.length=s.size:=by simp
 obtain⟨b',h1,h2⟩:=byteAt_list (s:=s) (i:=q) (by omega)
 rw[Gxu hl] at h
 rw[Gqd hl] at h1
 simp only[Option.some.injEq] at h1
 simp only[List.cons.injEq] at h
 exact⟨by omega,by rw[h2,←h1,h.1]⟩
theorem dvGo_enc (s:ByteArray) (p:Nat) (r:List UInt8):∀ (f N k:Nat) (acc:Int),0≤acc→s.data.toList.drop (p+k)=varN N++r→acc+N*2 ^ (7*k)≤1099511627775→(0<k→N≠0)→(varN N).length≤f→dvGo s p acc k f=some (acc+N*2 ^ (7*k),k+(varN N).length):=by
 intro f
 induction f with
 |zero=>intro N k acc _ _ _ _ h; have:=(varN_len N).1; omega
 | succ f ih =>
  intro N k acc h0 hd hb hk hf
  rw[dvGo]
  by_cases hN:N<128
  ·rw[Vc hN] at hd ⊢
   obtain⟨h1,h2⟩:=byte_drop hd
   have e:((UInt8.ofNat N).toNat:Int)=N:=by rw[UInt8.toNat_ofNat']; omega
   rw[e] at h2
   rw[if_pos h1,h2,if_neg (by omega),show (N:Int)%128=N by omega,if_neg (by omega)]
   rfl
  ·rw[varN_big hN] at hd hf ⊢
   have e:((UInt8.ofNat (N%128+128)).toNat:Int)=N%128+128:=by rw[UInt8.toNat_ofNat']; omega
   obtain⟨h1,h2⟩:=byte_drop hd
   rw[e] at h2
   have hd2:s.data.toList.drop (p+(k+1))=varN (N/128)++r:=by
    have:=congrArg (List.drop 1) hd
    rw[List.drop_drop] at this
    rw[show p+(k+1)=p+k+1 by omega,this]
    rfl
   have hv:acc+(N:Int)%128*2 ^ (7*k)+((N/128:Nat):Int)*2 ^ (7*(k+1))=acc+N*2 ^ (7*k):=by
    have e2:(2:Int) ^ (7*(k+1))=128*2 ^ (7*k):=by rw[show 7*(k+1)=7*k+7 by omega,Int.pow_add]; omega
    have e3:(N:Int)=128*((N/128:Nat):Int)+(N:Int)%128:=by omega
    rw[e2]
    generalize (2:Int) ^ (7*k)=M
    generalize ((N/128:Nat):Int)=q at e3 ⊢
    generalize (N:Int)%128=d at e3 ⊢
    rw[e3]
    grind
   have hM:(0:Int)≤(N:Int)%128*2 ^ (7*k):=Int.mul_nonneg (by omega) (Int.le_of_lt (Int.pow_pos (by omega)))
   have hi:=ih (N/128) (k+1) (acc+(N:Int)%128*2 ^ (7*k)) (by omega) hd2 (by omega) (fun _=>by omega) (by simp at hf; omega)
   rw[hv] at hi
   rw[if_pos h1,h2,if_pos (by omega),show ((N:Int)%128+128)%128=(N:Int)%128 by omega,hi]
   simp only[Gqx]
   congr 2
   omega
theorem decVar_enc {s:ByteArray} {p:Nat} {n:Int} {r:List UInt8} (h0:0≤n) (h1:n≤1099511627775) (hs:s.data.toList.drop p=encVar n++r):decVar s p=some (n,(encVar n).length):=by
 have hl:=Y2 n
 rw[encVar,if_pos ⟨h0,h1⟩] at hs hl ⊢
 have hne:=(varN_len n.toNat).1
 have hp:p<s.size:=by
  have:(s.data.toList.drop p).length=(varN n.toNat++r).length:=by rw[hs]
  have e:s.data.toList.length=s.size:=by simp
  simp only[Gxa,Gqg] at this
  omega
 rw[decVar,if_pos (by omega)]
 have:=dvGo_enc s p r 6 n.toNat 0 0 (by omega) (by simpa using hs) (by simp; omega) (by omega) hl
 simp at this
 rw[show ((p:Int)).toNat=p by omega,this]
 simp
 omega
theorem signed_signless {x:Int} (h:0≤signless x):signed (signless x)=x:=by
 unfold signless at h ⊢
 split at h
 ·rename_i hx
  rw[if_pos hx]
  split
  ·rw[signed,if_pos (by omega),if_pos (by omega)]; omega
  ·rw[signed,if_pos (by omega),if_neg (by omega)]; omega
 ·omega
theorem signless_le (x:Int):signless x≤1099511627775:=by
 unfold signless
 split
 ·split <;> omega
 ·omega
theorem uiGo_enc (s:ByteArray) (p:Nat) (r:List UInt8):∀ (l:List Int) (pos:Nat),(∀ x∈l,0≤signless x)→s.data.toList.drop (p+pos)=(l.flatMap fun x=>encVar (signless x))++r→uiGo s p l.length pos=some (l,pos+(l.flatMap fun x=>encVar (signless x)).length)
 | [],pos,_,_=>rfl
 | x::l,pos,hx,hs=>by
  have h0:=hx x (by simp)
  rw[List.flatMap_cons,Gqu] at hs
  have h1:=decVar_enc h0 (signless_le x) hs
  have hd:s.data.toList.drop (p+(pos+(encVar (signless x)).length))=(l.flatMap fun x=>encVar (signless x))++r:=by
   have:=congrArg (List.drop (encVar (signless x)).length) hs
   rw[List.drop_drop,List.drop_left] at this
   rw[←this]
   congr 1
   omega
  have h2:=uiGo_enc s p r l (pos+(encVar (signless x)).length) (fun y hy=>hx y (by simp[hy])) hd
  rw[Gqx,uiGo,show (p:Int)+(pos:Int)=((p+pos:Nat):Int) by omega,h1]
  simp only[h2,Gqv,signed_signless h0,List.flatMap_cons,Gqg]
  congr 2
  omega
theorem unpackInts_enc {xs:List Int} (hx:∀ x∈xs,0≤signless x) (hL:xs.length≤1073741824):unpackInts (packInts xs) 0=some (xs,(packInts xs).size):=by
 have hall:xs.all (fun x=>decide (0≤signless x))=true:=by simpa using hx
 have hp:packInts xs=bs (encVar xs.length++xs.flatMap fun x=>encVar (signless x)):=by
  rw[packInts,if_pos hall,packK,Gxd]
 have hl:(packInts xs).data.toList=encVar xs.length++((xs.flatMap fun x=>encVar (signless x)) ++ []):=by rw[hp,Yo,Gxi]
 have h1:decVar (packInts xs) ((0:Nat):Int)=_:=decVar_enc (n:=(xs.length:Int)) (by omega) (by omega) (by rw[List.drop_zero]; exact hl)
 have h2:=uiGo_enc (packInts xs) 0 [] xs (encVar (xs.length:Int)).length hx (by
  have:=congrArg (List.drop (encVar (xs.length:Int)).length) hl
  rw[List.drop_left] at this
  rw[Gx2]; exact this)
 rw[unpackInts,show (0:Int)=((0:Nat):Int) from rfl,h1]
 simp only[Int.toNat_natCast,h2]
 congr 2
 rw[hp,Yp,Gqg]
end
end Go.Proofs.YtoecjaohdnoenaaGreat
