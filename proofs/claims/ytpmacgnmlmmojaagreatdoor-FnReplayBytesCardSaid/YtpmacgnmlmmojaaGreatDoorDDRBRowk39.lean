/-
  Rules, data and contracts of functions: part 40 of the proof.
  Conditions: those that each theorem names.
-/
import Derived.Test.YtpmacgnmlmmojaaGreatDoorDDRBRowk34
import Derived.Test.YtpmacgnmlmmojaaGreatDoorDDRBRowk38
set_option linter.unusedSimpArgs false
set_option linter.unusedVariables false
set_option maxRecDepth 20000
set_option maxHeartbeats 8000000
namespace Go.Proofs.YtpmacgnmlmmojaaGreatDoor
section
open Go.RowKit

theorem tw_zero:∀ l:List UInt8,List.replicate (l.takeWhile zeroB).length 0=l.takeWhile zeroB
 | []=>rfl
 | x::l=>by
  rw[List.takeWhile_cons]
  split
  ·rename_i h
   have:x=0:=by simpa[zeroB] using h
   subst this
   rw[Gqt,List.replicate_succ,tw_zero l]
  ·rfl
theorem uz_pack (s:ByteArray) (hL:s.size≤1099511627775):∀ (N:Nat) (l:List UInt8) (f pos:Nat) (out:List UInt8),l.length≤N→out.length+l.length≤20000→s.data.toList.drop pos=packZ l→s.size≤pos+f→uzGo s true f pos out=some (out++l):=by
 intro N
 induction N with
 |zero =>
  intro l f pos out hN hl hd hf
  have:l = []:=List.length_eq_zero_iff.1 (by omega)
  subst this
  rw[packZ_nil] at hd
  have hlen:=congrArg List.length hd
  rw[Gq0] at hlen
  simp only[List.length_nil,Gzf] at hlen
  have h3:s.data.size=s.size:=rfl
  rw[uz_end (by omega),Gxg]
 | succ N ih =>
  intro l f pos out hN hl hd hf
  match l with
  | []=>exact ih [] f pos out (by simp) hl hd hf
  | x::r =>
   have hsl:=split_len (x::r)
   have hne:=packZ_ne x r
   rw[packZ,Gqn] at hd
   generalize hz:((x::r).takeWhile zeroB)=z at hd hsl hne
   generalize hd2:((x::r).dropWhile zeroB)=d at hd hsl hne
   have hxr:x::r=z++d:=by rw[←hz,←hd2,List.takeWhile_append_dropWhile]
   have hzr:List.replicate z.length 0=z:=by rw[←hz]; exact tw_zero _
   have hdd:d=d.takeWhile someB++d.dropWhile someB:=List.takeWhile_append_dropWhile.symm
   have h3:s.data.size=s.size:=rfl
   simp only[Gqt] at hN hl hsl
   have hb:(0:Int)≤(z.length:Nat)∧((z.length:Nat):Int)≤1099511627775:=by omega
   have h1:=Y2 hb.1 hb.2 hd
   have hpos:=encVar_pos hb
   have hd3:=Y5 hd
   have h2:=unpackText_enc hL hd3
   have hlt:pos<s.size:=by
    have hlen:=congrArg List.length hd
    rw[Gq0,Gqe] at hlen
    simp only[Gzf] at hlen
    omega
   cases f with
   |zero=>omega
   |succ f =>
    have hts:(bs (d.takeWhile someB)).size=(d.takeWhile someB).length:=Ys _
    rw[uz_step hlt h1 (by rw[Int.natCast_add] at h2; exact h2) (by rw[hts]; omega) (fun _ h=>hne ⟨by omega,by rw[hts] at h; omega⟩)]
    rw[Int.toNat_natCast,hzr,Yr]
    have hd4:=Y5 hd3
    rw[Gqe] at hd4
    have:=ih (d.dropWhile someB) f (pos+(encVar ((z.length:Nat):Int)).length+((encVar (((d.takeWhile someB).length:Nat):Int)).length+(d.takeWhile someB).length)) (out++z++d.takeWhile someB) (by omega) (by rw[Gqe,Gqe]; omega) hd4 (by omega)
    rw[this,hxr]
    conv=>rhs; rw[hdd]
    simp[Gqn]
theorem unpackZ_pack {l:List UInt8} (hl:l.length≤20000):unpackZ true (bs (packZ l))=some (bs l):=by
 have h1:=packZ_len l.length l (Gqf _)
 have h:=uz_pack (bs (packZ l)) (by rw[Ys]; omega) l.length l (bs (packZ l)).size 0 [] (Gqf _) (by simpa using hl) (by rw[Yr,Gx8]) (by omega)
 rw[unpackZ,h]
 simp
theorem xor8 (x:UInt8) (n:Int) (hn:0≤n∧n≤255):UInt8.ofNat ((UInt8.ofNat (x.toNat^^^n.toNat)).toNat^^^n.toNat)=x:=by
 have h1:x.toNat^^^n.toNat<2 ^ 8:=Nat.xor_lt_two_pow x.toNat_lt (by omega)
 have h2:(UInt8.ofNat (x.toNat^^^n.toNat)).toNat=x.toNat^^^n.toNat:=by
  rw[UInt8.toNat_ofNat']
  exact Nat.mod_eq_of_lt h1
 rw[h2,Nat.xor_assoc,Nat.xor_self,Nat.xor_zero]
 simp
theorem xor_xor (a b:ByteArray):xorText a (xorText a b)=b:=by
 have hs:=xor_size a b
 conv=>rhs; rw[←bs_of b]
 conv=>lhs; rw[xorText]
 congr 2
 have hlb:b.data.toList.length=b.size:=by simp
 have hx:(xorText a b).data.toList=xorL a b:=by rw[xorText,Yr]
 have hl1:=Vv a b
 have hl2:=Vv a (xorText a b)
 rw[hx] at hl2
 apply List.ext_getElem
 ·omega
 ·intro i h1 h2
  rw[xorL_at h1 (by rw[hx]; omega)]
  have h3:(xorText a b).data.toList[i]'(by rw[hx]; omega)=xorB a i b.data.toList[i]:=by
   have:(xorText a b).data.toList[i]'(by rw[hx]; omega)=(xorL a b)[i]'(by omega):=by congr 1
   rw[this]; exact xorL_at (by omega) h2
  rw[h3]
  unfold xorB
  split
  ·exact xor8 _ _ (Yu a i)
  ·rfl
theorem delta_back {a b:ByteArray} (hb:b.size≤20000):applyD a (deltaT a b)=some b:=by
 have hd:(deltaT a b).data.toList=encVar (b.size:Nat)++packZ (xorText a b).data.toList:=by rw[deltaT,Gxo,Gxx,Yr,Yr]
 have h1:decVar (deltaT a b) ((0:Nat):Int)=_:=Y2 (n:=((b.size:Nat):Int)) (by omega) (by omega) (by rw[Gx8]; exact hd)
 have hx:(xorText a b).data.toList.length≤20000:=by
  have:=xor_size a b
  have h2:(xorText a b).data.toList.length=(xorText a b).size:=by simp
  omega
 have he:(deltaT a b).extract (encVar ((b.size:Nat):Int)).length (deltaT a b).size=bs (packZ (xorText a b).data.toList):=by
  have h3:=Zh (deltaT a b) (encVar ((b.size:Nat):Int)).length (deltaT a b).size
  rw[←bs_of ((deltaT a b).extract (encVar ((b.size:Nat):Int)).length (deltaT a b).size),h3,hd,List.drop_left,Gxk]
  have h4:(deltaT a b).data.toList.length=(deltaT a b).size:=by simp
  rw[hd,Gqe] at h4
  omega
 rw[applyD,show (0:Int)=((0:Nat):Int) from rfl,h1]
 simp only
 rw[he,unpackZ_pack hx]
 simp only
 rw[bs_of,if_pos (by rw[xor_size]),xor_xor]
/-! ### The lockstep worlds -/
section
variable {l:TLevel} {n:Nat} {seed:Int} {e:Nat} {rows:List (List Int)}
noncomputable def keysK (l:TLevel) (n:Nat) (seed:Int) (e:Nat) (rows:List (List Int)) (c:Nat):List ByteArray:=(List.range c).map fun j=>deltaT (worldBytes (lockW l n seed rows (j*e))) (worldBytes (lockW l n seed rows ((j+1)*e)))
noncomputable def replK (l:TLevel) (n:Nat) (seed:Int) (e:Nat) (rows:List (List Int)) (k:Nat):TReplay:=⟨l,n,seed,e,rows.take k,keysK l n seed e rows (k/e)⟩
theorem Zs (c:Nat):(keysK l n seed e rows c).length=c:=by simp[keysK]
theorem keysK_at {c j:Nat} (h:j<c):(keysK l n seed e rows c)[j]? = some (deltaT (worldBytes (lockW l n seed rows (j*e))) (worldBytes (lockW l n seed rows ((j+1)*e)))):=by
 rw[keysK,Gqh,List.getElem?_range h]
 rfl
theorem RD.text (h:RD l n seed e rows) (c:Nat):∀ j,j≤c→keyText (worldBytes (newWorld l n seed)) (keysK l n seed e rows c) j=some (worldBytes (lockW l n seed rows (j*e)))
 |0,_=>by rw[keyText,Nat.zero_mul,lockW_zero]
 |j+1,hj=>by
  rw[keyText_step (RD.text h c j (by omega)) (keysK_at (by omega))]
  exact delta_back (Yx _)
theorem RD.ok (h:RD l n seed e rows) {k:Nat} (hk:k≤rows.length):replayOk (replK l n seed e rows k)=true:=by
 have hL:=h.hL
 have he:=h.he
 have hlen:(rows.take k).length=k:=by rw[Gqx]; omega
 unfold replayOk replK
 simp only[Gqg,decide_eq_true_eq,Zn]
 refine⟨⟨⟨⟨⟨⟨h.hl,by have:=h.hn; omega⟩,Zn.1 h.hs⟩,by omega⟩,by omega⟩,Gqk.2 fun r hr=>h.hr r (Gxc hr)⟩,?_⟩
 rw[Zs,hlen]
 rfl
theorem RD.key (h:RD l n seed e rows) {k:Nat} (hk:k≤rows.length) {j:Int} (hj : -1≤j∧j<(k/e:Nat)):keyAt (replK l n seed e rows k) j=some (lockW l n seed rows ((j+1).toNat*e)):=by
 have he:=h.he
 have hok:=h.ok hk
 have hkl:(replK l n seed e rows k).Keys.length=k/e:=Zs _
 rw[keyAt_all ⟨hok,hj.1,by rw[hkl]; exact hj.2⟩]
 have hn:(replK l n seed e rows k).Players.toNat=n:=Int.toNat_natCast n
 obtain⟨c,hc⟩:∃ c:Nat,(j+1).toNat=c:=⟨_,rfl⟩
 rw[hc]
 have hck:c≤k/e:=by omega
 have hce:c*e≤k:=Gq8 (Gx2 e hck) (Nat.div_mul_le_self k e)
 have hg:=h.good (c*e)
 have htk:(rows.take (c*e)).length=c*e:=by rw[Gqx]; omega
 have hb:=world_back hg.1
 rw[hg.2.2.1] at hb
 refine Zr (s:=worldBytes (lockW l n seed rows (c*e))) ?_ hb ⟨?_,?_⟩
 ·rw[hn]; exact h.text _ c hck
 ·rw[hg.2.1,htk]; show ((c*e:Nat):Int)=(c:Int)*(e:Int); omega
 ·rw[hg.2.2.2]; rfl
theorem RD.seek (h:RD l n seed e rows) {k t:Nat} (hk:k≤rows.length) (ht:t≤k):seekM (replK l n seed e rows k) t=some (lockW l n seed rows t):=by
 have he:=h.he
 have hok:=h.ok hk
 have hlen:(rows.take k).length=k:=by rw[Gqx]; omega
 have hdv:((t:Int)/(e:Int))=((t/e:Nat):Int):=rfl
 have hle:t/e≤k/e:=Nat.div_le_div_right ht
 have h0:0≤(t:Int)/(e:Int):=by rw[hdv]; exact Int.natCast_nonneg _
 have h1:(t:Int)/(e:Int)≤((k/e:Nat):Int):=by rw[hdv]; exact Int.ofNat_le.2 hle
 have hkey:=h.key hk (j:=(t:Int)/(e:Int)-1) ⟨by omega,by omega⟩
 rw[seek_some ⟨hok,by omega,by show (t:Int)≤((rows.take k).length:Nat); omega⟩ hkey]
 have hm:t/e*e≤t:=Nat.div_mul_le_self t e
 rw[show ((t:Int)/(e:Int)-1+1).toNat=t/e by rw[hdv]; omega]
 congr 1
 show runM (lockW l n seed rows (t/e*e)) (((rows.take k).take ((t:Nat):Int).toNat).drop ((t:Int)/(e:Int)*(e:Int)).toNat)=_
 rw[Int.toNat_natCast,List.take_take,Nat.min_eq_left ht,hdv,show (((t/e:Nat):Int)*(e:Int)).toNat=t/e*e by rw[←Int.natCast_mul,Int.toNat_natCast],lockW,←runM_app]
 rw[show rows.take (t/e*e)=(rows.take t).take (t/e*e) by rw[List.take_take,Nat.min_eq_left hm],Gx1]
 rfl
theorem keysK_succ (c:Nat):keysK l n seed e rows (c+1)=keysK l n seed e rows c ++ [deltaT (worldBytes (lockW l n seed rows (c*e))) (worldBytes (lockW l n seed rows ((c+1)*e)))]:=by
 rw[keysK,List.range_succ,List.map_append]
 rfl
theorem div_step {k e:Nat} (he:1≤e):(((k:Int)+1)%(e:Int)=0→(k+1)/e=k/e+1∧(k/e+1)*e=k+1)∧(¬((k:Int)+1)%(e:Int)=0→(k+1)/e=k/e):=by
 have h1:((k:Int)+1)%(e:Int)=(((k+1)%e:Nat):Int):=by rw[Int.natCast_emod]; rfl
 rw[h1]
 have h2:=Nat.succ_div (a:=k) (b:=e)
 constructor
 ·intro h
  have h3:(k+1)%e=0:=by omega
  have h4:e ∣ k+1:=Nat.dvd_of_mod_eq_zero h3
  rw[if_pos h4] at h2
  refine⟨h2,?_⟩
  rw[←h2]
  exact Nat.div_mul_cancel h4
 ·intro h
  rw[if_neg fun h4=>h (by rw[Nat.mod_eq_zero_of_dvd h4]; rfl)] at h2
  exact h2
theorem RD.add (h:RD l n seed e rows) {k:Nat} {row:List Int} (hr:rows[k]? = some row):addRow (replK l n seed e rows k) row=(replK l n seed e rows (k+1),true):=by
 have he:=h.he
 have hk:k<rows.length:=Zk hr
 have hlen:(rows.take k).length=k:=by rw[Gqx]; omega
 have hkl:(replK l n seed e rows k).Keys.length=k/e:=Zs _
 have h1:=h.key (k:=k) (by omega) (j:=((replK l n seed e rows k).Keys.length:Int)-1) (by rw[hkl]; omega)
 have h2:=h.seek (k:=k) (t:=k) (by omega) (Gqf _)
 have h2':seekM (replK l n seed e rows k) (replK l n seed e rows k).Rows.length=some (lockW l n seed rows k):=by
  rw[show ((replK l n seed e rows k).Rows.length:Int)=(k:Int) by show ((rows.take k).length:Int)=_; omega]
  exact h2
 rw[show (((replK l n seed e rows k).Keys.length:Int)-1+1).toNat=k/e by rw[hkl]; omega] at h1
 have hstep:stepW (lockW l n seed rows k) row=lockW l n seed rows (k+1):=by
  rw[lockW,lockW,List.take_add_one,hr,Option.toList_some,runM_app]
  rfl
 have hto:addOne (replK l n seed e rows k) row (lockW l n seed rows (k/e*e)) (lockW l n seed rows k)=replK l n seed e rows (k+1):=by
  have hd:=div_step (k:=k) he.1
  unfold addOne
  rw[hstep]
  show TReplay.mk l n seed e (rows.take k ++ [row]) (if (((rows.take k).length:Int)+1)%(e:Int)=0 then keysK l n seed e rows (k/e)++_ else keysK l n seed e rows (k/e))=⟨l,n,seed,e,rows.take (k+1),keysK l n seed e rows ((k+1)/e)⟩
  rw[hlen,List.take_add_one,hr,Option.toList_some]
  congr 1
  split
  ·rename_i hm
   obtain⟨h3,h4⟩:=hd.1 hm
   rw[h3,keysK_succ,h4]
  ·rename_i hm
   rw[hd.2 hm]
 rw[add_yes h1 h2' (by rw[hto]; exact h.ok (by omega)),hto]
theorem RD.adds (h:RD l n seed e rows):addsM (replK l n seed e rows 0) rows=(replK l n seed e rows rows.length,true):=by
 have:∀ k,k≤rows.length→addsG (replK l n seed e rows 0) rows k=some (replK l n seed e rows k):=fun k=>by
  induction k with
  |zero=>intro _; rfl
  |succ k ih =>
   intro hk
   have hr:rows[k]? = some rows[k]:=Gqd (by omega)
   have ha:=h.add hr
   rw[adds_go (ih (by omega)) hr (by rw[ha]),ha]
 exact adds_T (this _ (Gqf _))
end
theorem RD.rep {l:TLevel} {n:Nat} {seed:Int} {e:Nat} {rows:List (List Int)} (h:RD l n seed e rows) (gr:Enc.gd rows) {k:Nat} (hk:k≤rows.length):RepIn (replK l n seed e rows k)∧KeysIn (replK l n seed e rows k):=by
 have hL:=h.hL
 have hs:=Zn.1 h.hs
 have hn:=h.hn
 have he:=h.he
 have hks:∀ x∈keysK l n seed e rows (k/e),x.size≤1048576:=fun x hx=>by
  rw[keysK] at hx
  obtain⟨j,_,rfl⟩:=Gqr.1 hx
  have h5:=Y4 (worldBytes (lockW l n seed rows (j*e))) (worldBytes (lockW l n seed rows ((j+1)*e)))
  have h6:=Yx (lockW l n seed rows ((j+1)*e))
  omega
 have hkl:(keysK l n seed e rows (k/e)).length≤9223372036854775807:=by rw[Zs]; exact Gq8 (Nat.div_le_self _ _) (by omega)
 have hg:Enc.gd (replK l n seed e rows k):=⟨h.gl,⟨by show _≤(n:Int); omega,by show (n:Int)≤_; omega⟩,⟨by show _≤seed; omega,by show seed≤_; omega⟩,⟨by show _≤(e:Int); omega,by show (e:Int)≤_; omega⟩,Enc.gd_take gr _,⟨hkl,fun x hx=>by have:=hks x hx; show x.size≤_; omega⟩⟩
 exact⟨ok_in hg h.ll (h.ok hk),hks⟩
end
section
open Go.RowKit

def rlD (b:List UInt8) (c:Cu):TLevel×Cu:=levelC b c
def rnD (b:List UInt8) (c:Cu):Int×Cu:=belowC b 4 (rlD b c).2
def rsD (b:List UInt8) (c:Cu):Int×Cu:=belowC b 65536 (rnD b c).2
def reD (b:List UInt8) (c:Cu):Int×Cu:=pickC_ b [1,2,5,16] (rsD b c).2
def rN (b:List UInt8) (c:Cu):Nat:=(rnD b c).1.toNat+1
def rE (b:List UInt8) (c:Cu):Nat:=(reD b c).1.toNat
def rRows (b:List UInt8) (c:Cu):List (List Int)×Cu:=drawRows b (rN b c) 6 (reD b c).2
theorem reD_rng (b:List UInt8) (c:Cu):1≤(reD b c).1∧(reD b c).1≤16:=by
 refine pickC_all (q:=fun x=>1≤x∧x≤16) (by simp) fun x hx => ?_
 simp only[List.mem_cons,Gxp,or_false] at hx
 omega
theorem rl_ok {b:List UInt8} {c:Cu} (hc:c.i≤b.length):levelOk (rlD b c).1=true∧Enc.gd (rlD b c).1∧(rlD b c).1.Rows.length≤1001∧(rlD b c).2.i≤b.length:=by
 have r:=Yo (b:=b) (n:=5) (c:=c) (by omega)
 have hl:=lv_ok (belowC b 5 c).1.toNat (by omega)
 have h2:=splitG_ok hl.2
 exact⟨hl.1,h2.1,h2.2,Yn hc⟩
theorem rRows_ok (b:List UInt8) (c:Cu):(rRows b c).1.length≤24∧∀ r∈(rRows b c).1,r.length=rN b c∧∀ x∈r,0≤x∧x≤15:=by
 have h1:=Yo (b:=b) (n:=6) (c:=(reD b c).2) (by omega)
 have h2:=rowsC_len (b:=b) (n:=rN b c) (c:=(belowC b 6 (reD b c).2).2) (belowC b 6 (reD b c).2).1.toNat
 refine⟨?_,fun r hr=>rowsC_all _ r hr⟩
 show (rowsC b (rN b c) _ _).1.length≤24
 omega
theorem repl_rd {b:List UInt8} {c:Cu} (hc:c.i≤b.length):RD (rlD b c).1 (rN b c) (rsD b c).1 (rE b c) (rRows b c).1:=by
 have hl:=rl_ok hc
 have hn:=Yo (b:=b) (n:=4) (c:=(rlD b c).2) (by omega)
 have hs:=Yo (b:=b) (n:=65536) (c:=(rnD b c).2) (by omega)
 have he:=reD_rng b c
 have hr:=rRows_ok b c
 refine⟨hl.1,hl.2.1,by omega,by unfold rN rnD; omega,Zn.2 (by unfold rsD; omega),by unfold rE; omega,by omega,fun r hm => ?_⟩
 obtain⟨h1,h2⟩:=hr.2 r hm
 have h3:inOk r=true:=Gqk.2 fun x hx=>Zn.2 (h2 x hx)
 simp only[rowOk,h1,h3,Bool.and_true,decide_eq_true_eq,Gqg,and_true]
noncomputable def replD (b:List UInt8) (c:Cu):TReplay:=replK (rlD b c).1 (rN b c) (rsD b c).1 (rE b c) (rRows b c).1 (rRows b c).1.length
def dr3A:List (List Nat) := [[],[],[],[2],[],[],[2,3,4,5],[0,1,2,3,4,5,6],[0,1,2,3,4,5,6,7],[0,1,2,3,4,5,6,7,8],[0,1,2,3,4,5,6,7,8],[],[0,1,2,3,4,5,6,7,8,9,11],[0,1,2,3,4,5,6,7,8,9,10,11,12]]
def dr3M:List (List Nat) := [[13,14,15,16,17,18,19,20,12,21,22,5,6],[13,14,15,16,17,18,19,20,12,21,22,5,6],[13,14,15,16,17,18,19,20,12,21,22,5,6],[13,14,15,16,17,18,19,20,12,21,22,5,6],[13,14,15,16,17,18,19,20,12,21,22,5,6],[13,14,15,16,17,18,19,20,12,21,22,5,6],[13,14,15,16,17,18,19,20,12,21,22,5,6],[13,14,15,16,17,18,19,20,12,21,22,5,6],[13,14,15,16,17,18,19,20,12,21,22,5,6],[13,14,15,16,17,18,19,20,12,21,22,5,6],[13,14,15,16,17,18,19,20,12,21,22,5,6],[13,14,15,16,17,18,19,20,12,21,22,5,6],[13,14,15,16,17,18,19,20,12,21,22,5,6],[13,14,15,16,17,18,19,20,12,21,22,5,6]]
def dr4A:List (List Nat) := [[],[],[],[1,2],[0,1,2,3],[0,1,2,3,4],[0,1,2,3,4,5],[0,1,2,3,4,5],[0,1,2,3,4,5,6]]
def dr4M:List (List Nat) := [[24,25,26,27,28,23,29,30],[24,25,26,27,28,23,29,30],[24,25,26,27,28,23,29,30],[24,25,26,27,28,23,29,30],[24,25,26,27,28,23,29,30],[24,25,26,27,28,23,29,30],[24,25,26,27,28,23,29,30],[24,25,26,27,28,23,29,30],[24,25,26,27,28,23,29,30]]
theorem S_l07Replay (b:List UInt8) (c:Cu) (hb:b.length≤1048576) (hc:c.i≤b.length):Con Tryz.prog 61 [cub b c,.gh 0 (.c (.ptr 0 0))] [.c (.ptr 0 0)] [cub b (rRows b c).2,.gh 0 (.c (.ptr 0 0)),.row 1 (els (replD b c).Level.Rows),.row 1 (els (replD b c).Rows),.row 1 (els (replD b c).Keys)] (.o (.ag [.ref 2,jn (replD b c).Players,jn (replD b c).Seed,jn (replD b c).Every,.ref 3,.ref 4])):=by
 have R:=repl_rd hc
 have hl:=rl_ok hc
 have hcn:(rnD b c).2.i≤b.length:=Yn hl.2.2.2
 have hcs:(rsD b c).2.i≤b.length:=Yn hcn
 have hce:(reD b c).2.i≤b.length:=pickC_ok hcs
 have r3:=Yo (b:=b) (n:=4) (c:=(rlD b c).2) (by omega)
 have r5:=reD_rng b c
 have hro:=rRows_ok b c
 have k2:=S_l02Level b c hb hc
 have k3:=Yc b 4 (rlD b c).2 hb hl.2.2.2 (by omega)
 have k4:=Yc b 65536 (rnD b c).2 hb hcn (by omega)
 have k5:=S_l01PickInt b [1,2,5,16] (rsD b c).2 hb hcs (by simp) (by simp)
 have k6:=S_l02Rows b (rN b c) 6 (reD b c).2 hb hce (by have:=R.hn; omega) (by omega)
 have hn0:=R.hn
 have hs0:=Zn.1 R.hs
 have he0:=R.he
 have gr:Enc.gd (rRows b c).1:=gd_rows (n:=rN b c) (by omega) (by omega) hro.2
 have hr0:=R.rep gr (k:=0) (Gq2 _)
 have k7:=S_NewReplay (rlD b c).1 (rN b c) (rsD b c).1 (rE b c) R.gl R.ll ⟨by omega,by omega⟩ ⟨by omega,by omega⟩ ⟨by omega,by omega⟩
 have hrep0:(⟨(rlD b c).1,(rN b c:Int),(rsD b c).1,(rE b c:Int),[],[]⟩:TReplay)=replK (rlD b c).1 (rN b c) (rsD b c).1 (rE b c) (rRows b c).1 0:=by rw[replK,Nat.zero_div]; rfl
 have hok0:=R.ok (Gq2 _)
 rw[show newReplay (rlD b c).1 (rN b c) (rsD b c).1 (rE b c)=replK (rlD b c).1 (rN b c) (rsD b c).1 (rE b c) (rRows b c).1 0 by rw[newReplay,hrep0,hok0]; rfl,hrep0,hok0] at k7
 have k8:=S_AddRows _ (rRows b c).1 gr hr0.1 (fun r hr=>by rw[(hro.2 r hr).1]; omega) hr0.2
 rw[R.adds] at k8
 change Con _ _ _ _ [cub b (rlD b c).2,.gh 0 (.c (.ptr 0 0)),.row 1 (els (rlD b c).1.Rows)] _ at k2
 change Con _ _ _ _ [cub b (rnD b c).2,.gh 0 (.c (.ptr 0 0))] (I (rnD b c).1) at k3
 change Con _ _ _ _ [cub b (rsD b c).2,.gh 0 (.c (.ptr 0 0))] (I (rsD b c).1) at k4
 change Con _ _ _ _ [cub b (reD b c).2,.gh 0 (.c (.ptr 0 0))] (I (reD b c).1) at k5
 change Con _ _ _ _ [cub b (rRows b c).2,.gh 0 (.c (.ptr 0 0))] (.o (.c (.rd [] (sl (rRows b c).1)))) at k6
 change Con _ _ _ _ (ownO (Enc.e (replD b c))) (.tu [.ag (ownV 0 (Enc.e (replD b c))),.c (bv true)]) at k8
 have hnn:1+(rnD b c).1=((rN b c:Nat):Int):=by unfold rN rnD; omega
 have hee:(reD b c).1=((rE b c:Nat):Int):=by unfold rE; omega
 rw[hee] at k5
 clear R hro hl hcn hcs hce r3 r5 gr hr0 hrep0 hok0
 generalize replD b c=r at k8 ⊢
 generalize replK (rlD b c).1 (rN b c) (rsD b c).1 (rE b c) (rRows b c).1 0=r0 at k7 k8
 generalize rN b c=n at k6 k7 hnn hn0
 generalize rE b c=e at k5 k7 he0 hee
 generalize rRows b c=p5 at k6 k8 ⊢
 generalize reD b c=p4 at k5 k6 hee
 generalize rsD b c=p3 at k4 k5 k7 hs0
 generalize rnD b c=p2 at k3 k4 hnn
 generalize rlD b c=p1 at k2 k3 k7
 obtain⟨l,c1⟩:=p1
 obtain⟨x,c2⟩:=p2
 obtain⟨seed,c3⟩:=p3
 obtain⟨x4,c4⟩:=p4
 obtain⟨rows,c5⟩:=p5
 simp only at k2 k3 k4 k5 k6 k7 k8 hnn hs0 hee ⊢
 refine Con.of Tryz.func61 J Tryz.ntmps61 J (fun E => ?_)
 refine Wz [1,90,2,10] ?_;refine X6 (lo := [_]) (gs := [(0,.c (.ptr 0 0))]) (lo' := [_]) (new := [_]) [0] [(0,0,.ptr 0 0)] (k2) J J J J J J J J J J J J J J J J J ?_;refine Wz [75,10] ?_;refine AL.weak (st':=(⟨_,[(0,.o (.c (.ptr 0 0))),(2,.o (.c (.ptr 2 0))),(3,.o (.c (.ptr 4 0))),(9,.o (.c (.ptr 0 0)))],[cub b c1,.gh 0 (.c (.ptr 0 0)),.box [nilV,jn 0,jn 0,jn 0,nilV,nilV],.row 1 (els l.Rows),.box [.ref 3]]⟩:St)) (Gs [0,1,2,3,4]) ?_;refine X6 (lo := [_]) (gs := [(0,.c (.ptr 0 0))]) (lo' := [_]) (new := []) [0] [(0,0,.ptr 0 0)] (k3) J J J J J J J J J J J J J J J J J ?_;refine Wz [136,12] ?_
 refine AWP.pre (st':=(⟨_,[(0,.o (.c (.ptr 0 0))),(2,.o (.c (.ptr 2 0))),(3,.o (.c (.ptr 4 0))),(4,I n)],[cub b c2,.gh 0 (.c (.ptr 0 0)),.box [nilV,jn 0,jn 0,jn 0,nilV,nilV],.row 1 (els l.Rows),.box [.ref 3]]⟩:St)) ?_ (Gp [0,1,2,3,4] J (.c J (.c J (.c J (.cons (Xz hnn) (.nil))))))
 refine A_seqW ⟨32,[(0,.o (.c (.ptr 0 0))),(2,.o (.c (.ptr 2 0))),(4,I n),(5,.o (.c (.ptr 3 0)))],[cub b c4,.gh 0 (.c (.ptr 0 0)),.box [nilV,jn 0,jn 0,jn 0,nilV,nilV],.box [.ref 4,jn r0.Players,jn r0.Seed,jn r0.Every,.ref 5,.ref 6],.row 1 (els r0.Level.Rows),.row 1 (els r0.Rows),.row 1 (els r0.Keys)]⟩ ?_ ?_
 ·
  refine A_drawn (f:=14) J J ?_
  refine DAL.have_ 0 (ms 14 16383) ⟨32,[(0,.o (.c (.ptr 0 0))),(2,.o (.c (.ptr 2 0))),(3,.o (.c (.ptr 4 0))),(4,I n),(5,.o (.c (.ptr 9 0)))],[cub b c4,.gh 0 (.c (.ptr 0 0)),.box [nilV,jn 0,jn 0,jn 0,nilV,nilV],.row 1 (els l.Rows),.box [.ref 3],.gone,.row 1 (els r0.Level.Rows),.row 1 (els r0.Rows),.row 1 (els r0.Keys),.box [.ref 6,jn r0.Players,jn r0.Seed,jn r0.Every,.ref 7,.ref 8]]⟩ ?_ (fun hd0 => ?_)
  ·
   refine DAL.nil (by kernel_rfl) (Q0 ?_)
   exact Gs [0,1,2,9,6,7,8]
  refine DAL.have_ 1 (ms 14 8191) ⟨32,[(0,.o (.c (.ptr 0 0))),(2,.o (.c (.ptr 2 0))),(3,.o (.c (.ptr 4 0))),(4,I n),(13,.o (.ag [.ref 3])),(14,I n),(15,.o (.c (.ptr 0 0))),(16,I seed),(17,.o (.c (.ptr 0 0))),(19,I e),(20,.tu [.ag [.ref 6,jn r0.Players,jn r0.Seed,jn r0.Every,.ref 7,.ref 8],.c (bv true)]),(12,.tu [.ag [.ref 6,jn r0.Players,jn r0.Seed,jn r0.Every,.ref 7,.ref 8],.c (bv true)]),(21,.o (.ag [.ref 6,jn r0.Players,jn r0.Seed,jn r0.Every,.ref 7,.ref 8])),(22,B true),(5,.o (.c (.ptr 9 0)))],[cub b c4,.gh 0 (.c (.ptr 0 0)),.box [nilV,jn 0,jn 0,jn 0,nilV,nilV],.row 1 (els l.Rows),.box [.ref 3],.gone,.row 1 (els r0.Level.Rows),.row 1 (els r0.Rows),.row 1 (els r0.Keys),.box [.ref 6,jn r0.Players,jn r0.Seed,jn r0.Every,.ref 7,.ref 8]]⟩ ?_ (fun hd1 => ?_)
  ·
   refine Ga 13 J ?_;refine Wz [11] ?_
   exact ye (Gs [0,1,2,3,4,5,6,7,8,9]) hd0
  refine DAL.have_ 2 (ms 14 4095) ⟨32,[(0,.o (.c (.ptr 0 0))),(2,.o (.c (.ptr 2 0))),(3,.o (.c (.ptr 4 0))),(4,I n),(13,.o (.ag [.ref 3])),(14,I n),(15,.o (.c (.ptr 0 0))),(16,I seed),(17,.o (.c (.ptr 0 0))),(19,I e),(20,.tu [.ag [.ref 6,jn r0.Players,jn r0.Seed,jn r0.Every,.ref 7,.ref 8],.c (bv true)]),(12,.tu [.ag [.ref 6,jn r0.Players,jn r0.Seed,jn r0.Every,.ref 7,.ref 8],.c (bv true)]),(21,.o (.ag [.ref 6,jn r0.Players,jn r0.Seed,jn r0.Every,.ref 7,.ref 8])),(22,B true),(5,.o (.c (.ptr 9 0)))],[cub b c4,.gh 0 (.c (.ptr 0 0)),.box [nilV,jn 0,jn 0,jn 0,nilV,nilV],.row 1 (els l.Rows),.box [.ref 3],.gone,.row 1 (els r0.Level.Rows),.row 1 (els r0.Rows),.row 1 (els r0.Keys),.box [nilV,jn 0,jn 0,jn 0,nilV,nilV]]⟩ ?_ (fun hd2 => ?_)
  ·
   refine Ga 12 J ?_;refine Wz [138] ?_
   exact ye (Gs [0,1,2,3,4,5,6,7,8,9]) hd1
  refine DAL.have_ 3 (ms 14 2047) ⟨32,[(0,.o (.c (.ptr 0 0))),(2,.o (.c (.ptr 2 0))),(3,.o (.c (.ptr 4 0))),(4,I n),(13,.o (.ag [.ref 3])),(14,I n),(15,.o (.c (.ptr 0 0))),(16,I seed),(17,.o (.c (.ptr 0 0))),(19,I e),(20,.tu [.ag [.ref 6,jn r0.Players,jn r0.Seed,jn r0.Every,.ref 7,.ref 8],.c (bv true)]),(12,.tu [.ag [.ref 6,jn r0.Players,jn r0.Seed,jn r0.Every,.ref 7,.ref 8],.c (bv true)]),(21,.o (.ag [.ref 6,jn r0.Players,jn r0.Seed,jn r0.Every,.ref 7,.ref 8])),(22,B true)],[cub b c4,.gh 0 (.c (.ptr 0 0)),.box [nilV,jn 0,jn 0,jn 0,nilV,nilV],.row 1 (els l.Rows),.box [.ref 3],.gone,.row 1 (els r0.Level.Rows),.row 1 (els r0.Rows),.row 1 (els r0.Keys)]⟩ ?_ (fun hd3 => ?_)
  ·
   refine Ga 11 J ?_;refine Wz [90,2] ?_
   exact ye (Gs [0,1,2,3,4,5,6,7,8,9]) hd2
  refine DAL.have_ 6 (ms 14 2175) ⟨32,[(0,.o (.c (.ptr 0 0))),(2,.o (.c (.ptr 2 0))),(3,.o (.c (.ptr 4 0))),(4,I n),(13,.o (.ag [.ref 3])),(14,I n),(15,.o (.c (.ptr 0 0))),(16,I seed),(17,.o (.c (.ptr 0 0))),(19,I e),(5,.o (.c (.ptr 6 0)))],[cub b c4,.gh 0 (.c (.ptr 0 0)),.box [nilV,jn 0,jn 0,jn 0,nilV,nilV],.row 1 (els l.Rows),.box [.ref 3],.gone,.box [nilV,jn 0,jn 0,jn 0,nilV,nilV]]⟩ ?_ (fun hd4 => ?_)
  ·
   refine Ga 7 J ?_;refine V6 (Kh J J (k7) J J J) J ?_;refine Wz [2] ?_;refine DAL.mv dr3A [] dr3M 8 _ 12 (by kernel_rfl) J J J J ?_;refine DAL.ext dr3A [] dr3M 9 _ 21 (by kernel_rfl) J J J J J J ?_;refine DAL.ext dr3A [] dr3M 10 _ 22 (by kernel_rfl) J J J J J J ?_
   exact ye (Gs [0,1,2,3,4,5,7,8,9,6]) hd2
  refine DAL.have_ 7 (ms 14 2174) ⟨32,[(0,.o (.c (.ptr 0 0))),(2,.o (.c (.ptr 2 0))),(3,.o (.c (.ptr 4 0))),(4,I n),(14,I n),(15,.o (.c (.ptr 0 0))),(16,I seed),(17,.o (.c (.ptr 0 0))),(19,I e),(5,.o (.c (.ptr 6 0)))],[cub b c4,.gh 0 (.c (.ptr 0 0)),.box [nilV,jn 0,jn 0,jn 0,nilV,nilV],.row 1 (els l.Rows),.box [.ref 3],.gone,.box [nilV,jn 0,jn 0,jn 0,nilV,nilV]]⟩ ?_ (fun hd5 => ?_)
  ·
   refine Ga 0 J ?_;refine Wz [48,2] ?_
   exact ye (Gs [0,1,2,3,4,5,6]) hd4
  refine DAL.have_ 7 (ms 14 2111) ⟨32,[(0,.o (.c (.ptr 0 0))),(2,.o (.c (.ptr 2 0))),(3,.o (.c (.ptr 4 0))),(4,I n),(13,.o (.ag [.ref 3])),(14,I n),(15,.o (.c (.ptr 0 0))),(16,I seed),(17,.o (.c (.ptr 0 0))),(18,.o (.c (.sb 5 4 1))),(5,.o (.c (.ptr 6 0)))],[cub b c3,.gh 0 (.c (.ptr 0 0)),.box [nilV,jn 0,jn 0,jn 0,nilV,nilV],.row 1 (els l.Rows),.box [.ref 3],.box [jn 1,jn 2,jn 5,jn 16],.box [nilV,jn 0,jn 0,jn 0,nilV,nilV]]⟩ ?_ (fun hd6 => ?_)
  ·
   refine Ga 6 J ?_;refine AL.weak (Wk.sbrow (q:=5) J J (Gqq J)) ?_;refine AL.freeze (p:=5) J ?_;refine X6 (lo := [_]) (gs := [(0,.c (.ptr 0 0))]) (lo' := [_]) (new := []) [0] [(0,0,.ptr 0 0)] (k5) J J J J J J J J J J J J J J J J J ?_;refine Wz [2] ?_
   exact ye (Gs [0,1,2,3,4,5,6]) hd4
  refine DAL.have_ 7 (ms 14 127) ⟨32,[(0,.o (.c (.ptr 0 0))),(2,.o (.c (.ptr 2 0))),(3,.o (.c (.ptr 4 0))),(4,I n),(13,.o (.ag [.ref 3])),(14,I n),(15,.o (.c (.ptr 0 0))),(16,I seed),(17,.o (.c (.ptr 0 0))),(19,I e)],[cub b c4,.gh 0 (.c (.ptr 0 0)),.box [nilV,jn 0,jn 0,jn 0,nilV,nilV],.row 1 (els l.Rows),.box [.ref 3],.gone]⟩ ?_ (fun hd7 => ?_)
  ·
   refine DAL.two 7 11 (by kernel_rfl) J J ?_ ?_
   ·
    refine V6 (Kh J J (k7) J J J) J ?_;refine Wz [2] ?_;refine DAL.mv dr3A [] dr3M 8 _ 12 (by kernel_rfl) J J J J ?_;refine DAL.ext dr3A [] dr3M 9 _ 21 (by kernel_rfl) J J J J J J ?_;refine DAL.ext dr3A [] dr3M 10 _ 22 (by kernel_rfl) J J J J J J ?_
    exact ye (Gs [0,1,2,3,4,5,6,7,8]) hd3
   ·
    refine Wz [90,2] ?_
    exact ye (Gs [0,1,2,3,4,5,6]) hd4
  refine DAL.have_ 8 (ms 14 2110) ⟨32,[(0,.o (.c (.ptr 0 0))),(2,.o (.c (.ptr 2 0))),(3,.o (.c (.ptr 4 0))),(4,I n),(14,I n),(15,.o (.c (.ptr 0 0))),(16,I seed),(17,.o (.c (.ptr 0 0))),(18,.o (.c (.sb 5 4 1))),(5,.o (.c (.ptr 6 0)))],[cub b c3,.gh 0 (.c (.ptr 0 0)),.box [nilV,jn 0,jn 0,jn 0,nilV,nilV],.row 1 (els l.Rows),.box [.ref 3],.box [jn 1,jn 2,jn 5,jn 16],.box [nilV,jn 0,jn 0,jn 0,nilV,nilV]]⟩ ?_ (fun hd8 => ?_)
  ·
   refine DAL.two 0 6 (by kernel_rfl) J J ?_ ?_
   ·
    refine Wz [48,2] ?_
    exact ye (Gs [0,1,2,3,4,5,6]) hd6
   ·
    refine AL.weak (Wk.sbrow (q:=5) J J (Gqq J)) ?_;refine AL.freeze (p:=5) J ?_;refine X6 (lo := [_]) (gs := [(0,.c (.ptr 0 0))]) (lo' := [_]) (new := []) [0] [(0,0,.ptr 0 0)] (k5) J J J J J J J J J J J J J J J J J ?_;refine Wz [2] ?_
    exact ye (Gs [0,1,2,3,4,5,6]) hd5
  refine DAL.have_ 8 (ms 14 2103) ⟨32,[(0,.o (.c (.ptr 0 0))),(2,.o (.c (.ptr 2 0))),(3,.o (.c (.ptr 4 0))),(4,I n),(13,.o (.ag [.ref 3])),(14,I n),(15,.o (.c (.ptr 0 0))),(17,.o (.c (.ptr 0 0))),(18,.o (.c (.sb 5 4 1))),(5,.o (.c (.ptr 6 0)))],[cub b c2,.gh 0 (.c (.ptr 0 0)),.box [nilV,jn 0,jn 0,jn 0,nilV,nilV],.row 1 (els l.Rows),.box [.ref 3],.box [jn 1,jn 2,jn 5,jn 16],.box [nilV,jn 0,jn 0,jn 0,nilV,nilV]]⟩ ?_ (fun hd9 => ?_)
  ·
   refine Ga 3 J ?_;refine X6 (lo := [_]) (gs := [(0,.c (.ptr 0 0))]) (lo' := [_]) (new := []) [0] [(0,0,.ptr 0 0)] (k4) J J J J J J J J J J J J J J J J J ?_;refine Wz [2] ?_
   exact ye (Gs [0,1,2,3,4,5,6]) hd6
  refine DAL.have_ 8 (ms 14 2079) ⟨32,[(0,.o (.c (.ptr 0 0))),(2,.o (.c (.ptr 2 0))),(3,.o (.c (.ptr 4 0))),(4,I n),(13,.o (.ag [.ref 3])),(14,I n),(15,.o (.c (.ptr 0 0))),(16,I seed),(17,.o (.c (.ptr 0 0))),(5,.o (.c (.ptr 5 0)))],[cub b c3,.gh 0 (.c (.ptr 0 0)),.box [nilV,jn 0,jn 0,jn 0,nilV,nilV],.row 1 (els l.Rows),.box [.ref 3],.box [nilV,jn 0,jn 0,jn 0,nilV,nilV]]⟩ ?_ (fun hd10 => ?_)
  ·
   refine Wz [298,45,2] ?_
   exact ye (Gs [0,1,2,3,4,6,5]) hd6
  refine DAL.have_ 8 (ms 14 126) ⟨32,[(0,.o (.c (.ptr 0 0))),(2,.o (.c (.ptr 2 0))),(3,.o (.c (.ptr 4 0))),(4,I n),(14,I n),(15,.o (.c (.ptr 0 0))),(16,I seed),(17,.o (.c (.ptr 0 0))),(19,I e)],[cub b c4,.gh 0 (.c (.ptr 0 0)),.box [nilV,jn 0,jn 0,jn 0,nilV,nilV],.row 1 (els l.Rows),.box [.ref 3],.gone]⟩ ?_ (fun hd11 => ?_)
  ·
   refine DAL.two 0 11 (by kernel_rfl) J J ?_ ?_
   ·
    refine Wz [48,2] ?_
    exact ye (Gs [0,1,2,3,4,5]) hd7
   ·
    refine Wz [90,2] ?_
    exact ye (Gs [0,1,2,3,4,5,6]) hd5
  refine DAL.have_ 8 (ms 14 63) ⟨32,[(0,.o (.c (.ptr 0 0))),(2,.o (.c (.ptr 2 0))),(3,.o (.c (.ptr 4 0))),(4,I n),(13,.o (.ag [.ref 3])),(14,I n),(15,.o (.c (.ptr 0 0))),(16,I seed),(17,.o (.c (.ptr 0 0))),(18,.o (.c (.sb 5 4 1)))],[cub b c3,.gh 0 (.c (.ptr 0 0)),.box [nilV,jn 0,jn 0,jn 0,nilV,nilV],.row 1 (els l.Rows),.box [.ref 3],.box [jn 1,jn 2,jn 5,jn 16]]⟩ ?_ (fun hd12 => ?_)
  ·
   refine DAL.two 6 11 (by kernel_rfl) J J ?_ ?_
   ·
    refine AL.weak (Wk.sbrow (q:=5) J J (Gqq J)) ?_;refine AL.freeze (p:=5) J ?_;refine X6 (lo := [_]) (gs := [(0,.c (.ptr 0 0))]) (lo' := [_]) (new := []) [0] [(0,0,.ptr 0 0)] (k5) J J J J J J J J J J J J J J J J J ?_;refine Wz [2] ?_
    exact ye (Gs [0,1,2,3,4,5]) hd7
   ·
    refine Wz [90,2] ?_
    exact ye (Gs [0,1,2,3,4,5,6]) hd6
  refine DAL.have_ 9 (ms 14 2102) ⟨32,[(0,.o (.c (.ptr 0 0))),(2,.o (.c (.ptr 2 0))),(3,.o (.c (.ptr 4 0))),(4,I n),(14,I n),(15,.o (.c (.ptr 0 0))),(17,.o (.c (.ptr 0 0))),(18,.o (.c (.sb 5 4 1))),(5,.o (.c (.ptr 6 0)))],[cub b c2,.gh 0 (.c (.ptr 0 0)),.box [nilV,jn 0,jn 0,jn 0,nilV,nilV],.row 1 (els l.Rows),.box [.ref 3],.box [jn 1,jn 2,jn 5,jn 16],.box [nilV,jn 0,jn 0,jn 0,nilV,nilV]]⟩ ?_ (fun hd13 => ?_)
  ·
   refine DAL.two 0 3 (by kernel_rfl) J J ?_ ?_
   ·
    refine Wz [48,2] ?_
    exact ye (Gs [0,1,2,3,4,5,6]) hd9
   ·
    refine X6 (lo := [_]) (gs := [(0,.c (.ptr 0 0))]) (lo' := [_]) (new := []) [0] [(0,0,.ptr 0 0)] (k4) J J J J J J J J J J J J J J J J J ?_;refine Wz [2] ?_
    exact ye (Gs [0,1,2,3,4,5,6]) hd8
  refine DAL.have_ 9 (ms 14 2078) ⟨32,[(0,.o (.c (.ptr 0 0))),(2,.o (.c (.ptr 2 0))),(3,.o (.c (.ptr 4 0))),(4,I n),(14,I n),(15,.o (.c (.ptr 0 0))),(16,I seed),(17,.o (.c (.ptr 0 0))),(5,.o (.c (.ptr 5 0)))],[cub b c3,.gh 0 (.c (.ptr 0 0)),.box [nilV,jn 0,jn 0,jn 0,nilV,nilV],.row 1 (els l.Rows),.box [.ref 3],.box [nilV,jn 0,jn 0,jn 0,nilV,nilV]]⟩ ?_ (fun hd14 => ?_)
  ·
   refine DAL.two 0 5 (by kernel_rfl) J J ?_ ?_
   ·
    refine Wz [48,2] ?_
    exact ye (Gs [0,1,2,3,4,5]) hd10
   ·
    refine Wz [45,2] ?_
    exact ye (Gs [0,1,2,3,4,6,5]) hd8
  refine DAL.have_ 9 (ms 14 2071) ⟨32,[(0,.o (.c (.ptr 0 0))),(2,.o (.c (.ptr 2 0))),(3,.o (.c (.ptr 4 0))),(4,I n),(13,.o (.ag [.ref 3])),(14,I n),(15,.o (.c (.ptr 0 0))),(17,.o (.c (.ptr 0 0))),(5,.o (.c (.ptr 5 0)))],[cub b c2,.gh 0 (.c (.ptr 0 0)),.box [nilV,jn 0,jn 0,jn 0,nilV,nilV],.row 1 (els l.Rows),.box [.ref 3],.box [nilV,jn 0,jn 0,jn 0,nilV,nilV]]⟩ ?_ (fun hd15 => ?_)
  ·
   refine DAL.two 3 5 (by kernel_rfl) J J ?_ ?_
   ·
    refine X6 (lo := [_]) (gs := [(0,.c (.ptr 0 0))]) (lo' := [_]) (new := []) [0] [(0,0,.ptr 0 0)] (k4) J J J J J J J J J J J J J J J J J ?_;refine Wz [2] ?_
    exact ye (Gs [0,1,2,3,4,5]) hd10
   ·
    refine Wz [45,2] ?_
    exact ye (Gs [0,1,2,3,4,6,5]) hd9
  refine DAL.have_ 9 (ms 14 62) ⟨32,[(0,.o (.c (.ptr 0 0))),(2,.o (.c (.ptr 2 0))),(3,.o (.c (.ptr 4 0))),(4,I n),(14,I n),(15,.o (.c (.ptr 0 0))),(16,I seed),(17,.o (.c (.ptr 0 0))),(18,.o (.c (.sb 5 4 1)))],[cub b c3,.gh 0 (.c (.ptr 0 0)),.box [nilV,jn 0,jn 0,jn 0,nilV,nilV],.row 1 (els l.Rows),.box [.ref 3],.box [jn 1,jn 2,jn 5,jn 16]]⟩ ?_ (fun hd16 => ?_)
  ·
   refine DAL.three 0 6 11 (by kernel_rfl) J J J ?_ ?_ ?_
   ·
    refine Wz [48,2] ?_
    exact ye (Gs [0,1,2,3,4,5]) hd12
   ·
    refine AL.weak (Wk.sbrow (q:=5) J J (Gqq J)) ?_;refine AL.freeze (p:=5) J ?_;refine X6 (lo := [_]) (gs := [(0,.c (.ptr 0 0))]) (lo' := [_]) (new := []) [0] [(0,0,.ptr 0 0)] (k5) J J J J J J J J J J J J J J J J J ?_;refine Wz [2] ?_
    exact ye (Gs [0,1,2,3,4,5]) hd11
   ·
    refine Wz [90,2] ?_
    exact ye (Gs [0,1,2,3,4,5,6]) hd8
  refine DAL.have_ 9 (ms 14 55) ⟨32,[(0,.o (.c (.ptr 0 0))),(2,.o (.c (.ptr 2 0))),(3,.o (.c (.ptr 4 0))),(4,I n),(13,.o (.ag [.ref 3])),(14,I n),(15,.o (.c (.ptr 0 0))),(17,.o (.c (.ptr 0 0))),(18,.o (.c (.sb 5 4 1)))],[cub b c2,.gh 0 (.c (.ptr 0 0)),.box [nilV,jn 0,jn 0,jn 0,nilV,nilV],.row 1 (els l.Rows),.box [.ref 3],.box [jn 1,jn 2,jn 5,jn 16]]⟩ ?_ (fun hd17 => ?_)
  ·
   refine DAL.two 3 11 (by kernel_rfl) J J ?_ ?_
   ·
    refine X6 (lo := [_]) (gs := [(0,.c (.ptr 0 0))]) (lo' := [_]) (new := []) [0] [(0,0,.ptr 0 0)] (k4) J J J J J J J J J J J J J J J J J ?_;refine Wz [2] ?_
    exact ye (Gs [0,1,2,3,4,5]) hd12
   ·
    refine Wz [90,2] ?_
    exact ye (Gs [0,1,2,3,4,5,6]) hd9
  refine DAL.have_ 9 (ms 14 31) ⟨32,[(0,.o (.c (.ptr 0 0))),(2,.o (.c (.ptr 2 0))),(3,.o (.c (.ptr 4 0))),(4,I n),(13,.o (.ag [.ref 3])),(14,I n),(15,.o (.c (.ptr 0 0))),(16,I seed),(17,.o (.c (.ptr 0 0)))],[cub b c3,.gh 0 (.c (.ptr 0 0)),.box [nilV,jn 0,jn 0,jn 0,nilV,nilV],.row 1 (els l.Rows),.box [.ref 3]]⟩ ?_ (fun hd18 => ?_)
  ·
   refine DAL.two 5 11 (by kernel_rfl) J J ?_ ?_
   ·
    refine Wz [45,2] ?_
    exact ye (Gs [0,1,2,3,4,5]) hd12
   ·
    refine Wz [90,2] ?_
    exact ye (Gs [0,1,2,3,4,5]) hd10
  refine DAL.have_ 10 (ms 14 2070) ⟨32,[(0,.o (.c (.ptr 0 0))),(2,.o (.c (.ptr 2 0))),(3,.o (.c (.ptr 4 0))),(4,I n),(14,I n),(15,.o (.c (.ptr 0 0))),(17,.o (.c (.ptr 0 0))),(5,.o (.c (.ptr 5 0)))],[cub b c2,.gh 0 (.c (.ptr 0 0)),.box [nilV,jn 0,jn 0,jn 0,nilV,nilV],.row 1 (els l.Rows),.box [.ref 3],.box [nilV,jn 0,jn 0,jn 0,nilV,nilV]]⟩ ?_ (fun hd19 => ?_)
  ·
   refine DAL.three 0 3 5 (by kernel_rfl) J J J ?_ ?_ ?_
   ·
    refine Wz [48,2] ?_
    exact ye (Gs [0,1,2,3,4,5]) hd15
   ·
    refine X6 (lo := [_]) (gs := [(0,.c (.ptr 0 0))]) (lo' := [_]) (new := []) [0] [(0,0,.ptr 0 0)] (k4) J J J J J J J J J J J J J J J J J ?_;refine Wz [2] ?_
    exact ye (Gs [0,1,2,3,4,5]) hd14
   ·
    refine Wz [45,2] ?_
    exact ye (Gs [0,1,2,3,4,6,5]) hd13
  refine DAL.have_ 10 (ms 14 54) ⟨32,[(0,.o (.c (.ptr 0 0))),(2,.o (.c (.ptr 2 0))),(3,.o (.c (.ptr 4 0))),(4,I n),(14,I n),(15,.o (.c (.ptr 0 0))),(17,.o (.c (.ptr 0 0))),(18,.o (.c (.sb 5 4 1)))],[cub b c2,.gh 0 (.c (.ptr 0 0)),.box [nilV,jn 0,jn 0,jn 0,nilV,nilV],.row 1 (els l.Rows),.box [.ref 3],.box [jn 1,jn 2,jn 5,jn 16]]⟩ ?_ (fun hd20 => ?_)
  ·
   refine DAL.three 0 3 11 (by kernel_rfl) J J J ?_ ?_ ?_
   ·
    refine Wz [48,2] ?_
    exact ye (Gs [0,1,2,3,4,5]) hd17
   ·
    refine X6 (lo := [_]) (gs := [(0,.c (.ptr 0 0))]) (lo' := [_]) (new := []) [0] [(0,0,.ptr 0 0)] (k4) J J J J J J J J J J J J J J J J J ?_;refine Wz [2] ?_
    exact ye (Gs [0,1,2,3,4,5]) hd16
   ·
    refine Wz [90,2] ?_
    exact ye (Gs [0,1,2,3,4,5,6]) hd13
  refine DAL.have_ 10 (ms 14 30) ⟨32,[(0,.o (.c (.ptr 0 0))),(2,.o (.c (.ptr 2 0))),(3,.o (.c (.ptr 4 0))),(4,I n),(14,I n),(15,.o (.c (.ptr 0 0))),(16,I seed),(17,.o (.c (.ptr 0 0)))],[cub b c3,.gh 0 (.c (.ptr 0 0)),.box [nilV,jn 0,jn 0,jn 0,nilV,nilV],.row 1 (els l.Rows),.box [.ref 3]]⟩ ?_ (fun hd21 => ?_)
  ·
   refine DAL.three 0 5 11 (by kernel_rfl) J J J ?_ ?_ ?_
   ·
    refine Wz [48,2] ?_
    exact ye (Gs [0,1,2,3,4]) hd18
   ·
    refine Wz [45,2] ?_
    exact ye (Gs [0,1,2,3,4,5]) hd16
   ·
    refine Wz [90,2] ?_
    exact ye (Gs [0,1,2,3,4,5]) hd14
  refine DAL.have_ 10 (ms 14 23) ⟨32,[(0,.o (.c (.ptr 0 0))),(2,.o (.c (.ptr 2 0))),(3,.o (.c (.ptr 4 0))),(4,I n),(13,.o (.ag [.ref 3])),(14,I n),(15,.o (.c (.ptr 0 0))),(17,.o (.c (.ptr 0 0)))],[cub b c2,.gh 0 (.c (.ptr 0 0)),.box [nilV,jn 0,jn 0,jn 0,nilV,nilV],.row 1 (els l.Rows),.box [.ref 3]]⟩ ?_ (fun hd22 => ?_)
  ·
   refine DAL.three 3 5 11 (by kernel_rfl) J J J ?_ ?_ ?_
   ·
    refine X6 (lo := [_]) (gs := [(0,.c (.ptr 0 0))]) (lo' := [_]) (new := []) [0] [(0,0,.ptr 0 0)] (k4) J J J J J J J J J J J J J J J J J ?_;refine Wz [2] ?_
    exact ye (Gs [0,1,2,3,4]) hd18
   ·
    refine Wz [45,2] ?_
    exact ye (Gs [0,1,2,3,4,5]) hd17
   ·
    refine Wz [90,2] ?_
    exact ye (Gs [0,1,2,3,4,5]) hd15
  refine DAL.have_ 11 (ms 14 22) ⟨32,[(0,.o (.c (.ptr 0 0))),(2,.o (.c (.ptr 2 0))),(3,.o (.c (.ptr 4 0))),(4,I n),(14,I n),(15,.o (.c (.ptr 0 0))),(17,.o (.c (.ptr 0 0)))],[cub b c2,.gh 0 (.c (.ptr 0 0)),.box [nilV,jn 0,jn 0,jn 0,nilV,nilV],.row 1 (els l.Rows),.box [.ref 3]]⟩ ?_ (fun hd23 => ?_)
  ·
   refine DAL.four 0 3 5 11 (by kernel_rfl) J J J J ?_ ?_ ?_ ?_
   ·
    refine Wz [48,2] ?_
    exact ye (Gs [0,1,2,3,4]) hd22
   ·
    refine X6 (lo := [_]) (gs := [(0,.c (.ptr 0 0))]) (lo' := [_]) (new := []) [0] [(0,0,.ptr 0 0)] (k4) J J J J J J J J J J J J J J J J J ?_;refine Wz [2] ?_
    exact ye (Gs [0,1,2,3,4]) hd21
   ·
    refine Wz [45,2] ?_
    exact ye (Gs [0,1,2,3,4,5]) hd20
   ·
    refine Wz [90,2] ?_
    exact ye (Gs [0,1,2,3,4,5]) hd19
  refine DAL.mv dr3A [] dr3M 1 _ 14 (by kernel_rfl) J J J J ?_;refine DAL.mv dr3A [] dr3M 2 _ 15 (by kernel_rfl) J J J J ?_;refine DAL.mv dr3A [] dr3M 4 _ 17 (by kernel_rfl) J J J J ?_
  exact ye (Gs [0,1,2,3,4]) hd23
 refine Qd ?_
 refine A_seqW ⟨32,[(0,.o (.c (.ptr 0 0))),(2,.o (.c (.ptr 2 0))),(5,.o (.c (.ptr 3 0)))],[cub b c5,.gh 0 (.c (.ptr 0 0)),.box [nilV,jn 0,jn 0,jn 0,nilV,nilV],.box [.ref 4,jn r.Players,jn r.Seed,jn r.Every,.ref 5,.ref 6],.row 1 (els r.Level.Rows),.row 1 (els r.Rows),.row 1 (els r.Keys)]⟩ ?_ ?_
 ·
  refine A_drawn (f:=9) J J ?_
  refine DAL.have_ 0 (ms 9 511) ⟨32,[(0,.o (.c (.ptr 0 0))),(2,.o (.c (.ptr 2 0))),(4,I n),(5,.o (.c (.ptr 3 0)))],[cub b c5,.gh 0 (.c (.ptr 0 0)),.box [nilV,jn 0,jn 0,jn 0,nilV,nilV],.box [.ref 7,jn r.Players,jn r.Seed,jn r.Every,.ref 8,.ref 9],.row 1 (els r0.Level.Rows),.row 1 (els r0.Rows),.row 1 (els r0.Keys),.row 1 (els r.Level.Rows),.row 1 (els r.Rows),.row 1 (els r.Keys)]⟩ ?_ (fun hd0 => ?_)
  ·
   refine DAL.nil (by kernel_rfl) (Q0 ?_)
   exact Gs [0,1,2,3,7,8,9]
  refine DAL.have_ 1 (ms 9 255) ⟨32,[(0,.o (.c (.ptr 0 0))),(2,.o (.c (.ptr 2 0))),(4,I n),(5,.o (.c (.ptr 3 0))),(24,.o (.ag [.ref 4,jn r0.Players,jn r0.Seed,jn r0.Every,.ref 5,.ref 6])),(25,.o (.c (.ptr 0 0))),(26,I n),(27,.o (.c (.rd [] (sl rows)))),(28,.tu [.ag [.ref 7,jn r.Players,jn r.Seed,jn r.Every,.ref 8,.ref 9],.c (bv true)]),(23,.tu [.ag [.ref 7,jn r.Players,jn r.Seed,jn r.Every,.ref 8,.ref 9],.c (bv true)]),(29,.o (.ag [.ref 7,jn r.Players,jn r.Seed,jn r.Every,.ref 8,.ref 9]))],[cub b c5,.gh 0 (.c (.ptr 0 0)),.box [nilV,jn 0,jn 0,jn 0,nilV,nilV],.box [.ref 4,jn r0.Players,jn r0.Seed,jn r0.Every,.ref 5,.ref 6],.row 1 (els r0.Level.Rows),.row 1 (els r0.Rows),.row 1 (els r0.Keys),.row 1 (els r.Level.Rows),.row 1 (els r.Rows),.row 1 (els r.Keys)]⟩ ?_ (fun hd1 => ?_)
  ·
   refine Ga 8 J ?_;refine Wz [138] ?_
   exact ye (Gs [0,1,2,3,4,5,6,7,8,9]) hd0
  refine DAL.have_ 5 (ms 9 15) ⟨32,[(0,.o (.c (.ptr 0 0))),(2,.o (.c (.ptr 2 0))),(4,I n),(5,.o (.c (.ptr 3 0))),(24,.o (.ag [.ref 4,jn r0.Players,jn r0.Seed,jn r0.Every,.ref 5,.ref 6])),(25,.o (.c (.ptr 0 0))),(26,I n),(27,.o (.c (.rd [] (sl rows))))],[cub b c5,.gh 0 (.c (.ptr 0 0)),.box [nilV,jn 0,jn 0,jn 0,nilV,nilV],.box [.ref 4,jn r0.Players,jn r0.Seed,jn r0.Every,.ref 5,.ref 6],.row 1 (els r0.Level.Rows),.row 1 (els r0.Rows),.row 1 (els r0.Keys)]⟩ ?_ (fun hd2 => ?_)
  ·
   refine Ga 4 J ?_;refine V6 (Kh J J (k8) J J J) J ?_;refine Wz [2] ?_;refine DAL.mv dr4A [] dr4M 5 _ 23 (by kernel_rfl) J J J J ?_;refine DAL.ext dr4A [] dr4M 6 _ 29 (by kernel_rfl) J J J J J J ?_;refine DAL.ext dr4A [] dr4M 7 _ 30 (by kernel_rfl) J J J J J J ?_
   exact ye (Gs [0,1,2,3,4,5,6,7,8,9]) hd1
  refine DAL.have_ 6 (ms 9 14) ⟨32,[(0,.o (.c (.ptr 0 0))),(2,.o (.c (.ptr 2 0))),(4,I n),(5,.o (.c (.ptr 3 0))),(25,.o (.c (.ptr 0 0))),(26,I n),(27,.o (.c (.rd [] (sl rows))))],[cub b c5,.gh 0 (.c (.ptr 0 0)),.box [nilV,jn 0,jn 0,jn 0,nilV,nilV],.box [.ref 4,jn r0.Players,jn r0.Seed,jn r0.Every,.ref 5,.ref 6],.row 1 (els r0.Level.Rows),.row 1 (els r0.Rows),.row 1 (els r0.Keys)]⟩ ?_ (fun hd3 => ?_)
  ·
   refine Ga 0 J ?_;refine Wz [48,2] ?_
   exact ye (Gs [0,1,2,3,4,5,6]) hd2
  refine DAL.have_ 6 (ms 9 7) ⟨32,[(0,.o (.c (.ptr 0 0))),(2,.o (.c (.ptr 2 0))),(4,I n),(5,.o (.c (.ptr 3 0))),(24,.o (.ag [.ref 4,jn r0.Players,jn r0.Seed,jn r0.Every,.ref 5,.ref 6])),(25,.o (.c (.ptr 0 0))),(26,I n)],[cub b c4,.gh 0 (.c (.ptr 0 0)),.box [nilV,jn 0,jn 0,jn 0,nilV,nilV],.box [.ref 4,jn r0.Players,jn r0.Seed,jn r0.Every,.ref 5,.ref 6],.row 1 (els r0.Level.Rows),.row 1 (els r0.Rows),.row 1 (els r0.Keys)]⟩ ?_ (fun hd4 => ?_)
  ·
   refine Ga 3 J ?_;refine X6 (lo := [_]) (gs := [(0,.c (.ptr 0 0))]) (lo' := [_]) (new := []) [0] [(0,0,.ptr 0 0)] (k6) J J J J J J J J J J J J J J J J J ?_;refine Wz [2] ?_
   exact ye (Gs [0,1,2,3,4,5,6]) hd2
  refine DAL.have_ 7 (ms 9 6) ⟨32,[(0,.o (.c (.ptr 0 0))),(2,.o (.c (.ptr 2 0))),(4,I n),(5,.o (.c (.ptr 3 0))),(25,.o (.c (.ptr 0 0))),(26,I n)],[cub b c4,.gh 0 (.c (.ptr 0 0)),.box [nilV,jn 0,jn 0,jn 0,nilV,nilV],.box [.ref 4,jn r0.Players,jn r0.Seed,jn r0.Every,.ref 5,.ref 6],.row 1 (els r0.Level.Rows),.row 1 (els r0.Rows),.row 1 (els r0.Keys)]⟩ ?_ (fun hd5 => ?_)
  ·
   refine DAL.two 0 3 (by kernel_rfl) J J ?_ ?_
   ·
    refine Wz [48,2] ?_
    exact ye (Gs [0,1,2,3,4,5,6]) hd4
   ·
    refine X6 (lo := [_]) (gs := [(0,.c (.ptr 0 0))]) (lo' := [_]) (new := []) [0] [(0,0,.ptr 0 0)] (k6) J J J J J J J J J J J J J J J J J ?_;refine Wz [2] ?_
    exact ye (Gs [0,1,2,3,4,5,6]) hd3
  refine DAL.mv dr4A [] dr4M 1 _ 25 (by kernel_rfl) J J J J ?_;refine DAL.mv dr4A [] dr4M 2 _ 26 (by kernel_rfl) J J J J ?_
  exact ye (Gs [0,1,2,3,4,5,6]) hd5
 refine Wz [6,126,145] ?_
 exact Xl J J J J (Gr [0,1,4,5,6] J J J)
theorem S_DrawReplay (b:List UInt8) (hb:b.length≤1048576):Con Tryz.prog 19 [] [al b] (ownO (Enc.e (replD b (newCu b)))) (.o (.ag (ownV 0 (Enc.e (replD b (newCu b)))))):=by
 have k1:=S_l01New b hb
 have k2:=S_l07Replay b (newCu b) hb (Gq2 _)
 generalize (rRows b (newCu b)).2=c5 at k2
 generalize replD b (newCu b)=r at k2 ⊢
 refine Con.of Tryz.func19 J Tryz.ntmps19 J (fun E => ?_)
 refine Wz [1,90,2,10] ?_;refine X6 (lo := []) (gs := []) (lo' := []) (new := [_]) [] [] (k1) J J J J J J J J J J J J J J J J J ?_;refine AL.weak (st':=(⟨_,[(2,.o (.c (.ptr 0 0))),(4,.o (.c (.ptr 1 0)))],[.box [nilV,jn 0,jn 0,jn 0,nilV,nilV],cub b (newCu b)]⟩:St)) (Gs [0,1]) ?_;refine X6 (lo := [_]) (gs := [(0,.c (.ptr 0 0))]) (lo' := [_]) (new := [_,_,_]) [1] [(0,0,.ptr 0 0)] (k2) J J J J J J J J J J J J J J J J J ?_;refine Wz [126,145] ?_
 exact Xl J J J J (Gr [2,3,4] J J J)
end
section
open Go.RowKit

theorem keysB_size (ks:List ByteArray) {m:Nat} (h:∀ x∈ks,x.size≤m):∀ k,k≤ks.length→(keysB ks k).size≤(m+6)*k
 |0,_=>by show (bs []).size≤_; rw[Ys]; simp
 |k+1,hk=>by
  have ih:=keysB_size ks h k (by omega)
  have h1:=Z4 (ks.getD k ⟨#[]⟩)
  have h2:ks.getD k ⟨#[]⟩=ks[k]:=by simp[Gqc,show k<ks.length by omega]
  have h3:=h _ (Gql (show k<ks.length by omega))
  rw[h2] at h1
  rw[keysB,Yy,h2,Nat.mul_succ]
  omega
structure RepE (r:TReplay):Prop where
 gd:Enc.gd r
 lv:levelOk r.Level=true
 wt:Enc.wt r.Level≤1073741824
 tx:(joinB r.Level.Rows slashB).size≤1048576
 pl:1≤r.Players∧r.Players≤4
 rl:r.Rows.length≤400
 rw_:∀ x∈r.Rows,(x.length:Int)=r.Players
 kl:r.Keys.length≤400
 ks:∀ x∈r.Keys,x.size≤1048576
end
end Go.Proofs.YtpmacgnmlmmojaaGreatDoor
