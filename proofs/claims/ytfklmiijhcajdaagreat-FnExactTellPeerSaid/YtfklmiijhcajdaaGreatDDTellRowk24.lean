/-
  Rules, data and contracts of functions: part 25 of the proof.
  Conditions: those that each theorem names.
-/
import Derived.Test.YtfklmiijhcajdaaGreatDDTellRowk23
set_option linter.unusedSimpArgs false
set_option linter.unusedVariables false
set_option maxRecDepth 8000
set_option maxHeartbeats 8000000
namespace Go.Proofs.YtfklmiijhcajdaaGreat
section
open Go.RowKit

def V1.tosk (q:Nat):V1→V1
 | .sb p n k=>match Nat.beq p q with
  |true=>match n with
   |0 => .ref q
   |_ => .un
  |false=>(V1.sb p n k).kill [q]
 |x=>x.kill [q]
theorem Wk.sbnil {st:St} {q:Nat} (k:Nat) (hq:st.objs[q]? = some (.box [])) (hk:Nat.blt 0 k=true):Wk st ⟨st.n,st.tmps.map fun t=>(t.1,t.2.mapk (V1.tosk q)),(st.objs.map (Ob.mapk (V1.tosk q))).set q (.row k [])⟩:=by
 intro w H F a h1
 have hb:=h1.obs q
 rw[Yt hq] at hb
 obtain⟨g,t,vs,e1,e2,e3⟩:=hb
 have hsay:=h1.ok.says q
 rw[e1] at hsay
 have hg:w.heap[g]? = some (.cells vs.toArray t (0,0)):=hsay
 have hqlt:=Yu hq
 have hkp:0<k:=Gqz hk
 have hO:OW w (.sl k []) (.slice (some ⟨g,0,none⟩) 0 0) [g]:=OW.sl [] g 0 k 0 t vs.toArray (0,0) (fun _ _=>undef) [] hg (.inl rfl) (Gqk _) (Nat.zero_le _) Aqd hkp (fun e he=>by simp at he) rfl (fun f hf=>by simp at hf) (fun i j hi=>by simp at hi) (fun i j e t fs f h=>by simp at h)
 have hkeep:Keeps w w [g]:=⟨rfl,rfl,rfl,Gqk _,fun _ _ _=>rfl⟩
 obtain⟨hok,htn⟩:=h1.ok.turn (p:=q) (fp := [g]) (by rw[e1]; rfl) hkeep (.ow (.sl k []) (.slice (some ⟨g,0,none⟩) 0 0) [g]) hO (by simp[Pc.fp]) trivial (fun b hb => .inl hb)
 have hone:∀ x v,R1 w H F x v→R1 w (H.put q (.ow (.sl k []) (.slice (some ⟨g,0,none⟩) 0 0) [g])) F (V1.tosk q x) v:=fun x v hx=>by
  cases x with
  | sb p n k' =>
   simp only[V1.tosk]
   split
   ·rename_i hp
    have hpq:=Gxa hp
    subst hpq
    split
    ·obtain⟨g',t',vs',k1,k2,k3,k4⟩:=hx
     rw[e1] at k1
     simp only[Pc.box.injEq] at k1
     obtain⟨rfl,rfl,rfl⟩:=k1
     rw[k4]
     exact⟨.sl k [],[g],by rw[Hs.put_self]⟩
    ·trivial
   ·exact R1.killed h1.ok htn hx
  |_=>exact R1.killed h1.ok htn hx
 refine⟨_,h1.mapk (V1.tosk q) hone hok ((st.objs.map (Ob.mapk (V1.tosk q))).set q (.row k [])) (fun p => ?_),fun p b hb => ?_,htn.gh⟩
 ·by_cases hpq:p=q
  ·subst hpq
   rw[Yt (x := .row k []) (by simp[hqlt])]
   exact⟨_,_,Hs.put_self _ _ _⟩
  ·rw[Gqg,Gq9 (Ne.symm hpq),Gqj]
   have h2:=h1.obs p
   rw[Gqg] at h2
   have h3:=Hs.put_ne H (.ow (.sl k []) (.slice (some ⟨g,0,none⟩) 0 0) [g]) hpq
   cases ho:st.objs[p]? with
   |none=>rw[ho] at h2; exact h3.trans h2
   |some ob=>rw[ho] at h2; exact RB.mapk hone h3 h2
 ·by_cases hpq:p=q
  ·subst hpq
   rw[Hs.put_self] at hb
   exact⟨p,by rw[e1]; exact hb⟩
  ·exact⟨p,by rw[←Hs.put_ne H _ hpq]; exact hb⟩
theorem S_l08Copy (x:TMatch) (h:MatchIn x):Con Tryz.prog 44 [] [ag x] (mR x []) (.o (.ag (mC x 0))):=by
 obtain⟨gL,_,_,gS,gP,gW,gQ,gA,_,gV,gK,gB,_⟩:=h.gd
 have hle:=h.le
 have c1:=S_copyLevel x.Level gL (Yy hle.L).1
 obtain⟨lS,wS⟩:=rows_in hle.S
 obtain⟨lA,wA⟩:=rows_in hle.A
 obtain⟨lP,wP⟩:=Yy hle.P
 obtain⟨lW,wW⟩:=Yy hle.W
 obtain⟨lQ,wQ⟩:=Yy hle.Q
 obtain⟨lV,wV⟩:=Yy hle.V
 obtain⟨lK,wK⟩:=Yy hle.K
 obtain⟨lB,wB⟩:=Yy hle.B
 have eS:=Yi x.Scripts
 have eA:=Yi x.Acks
 have eP:=Yi x.Peers
 have eW:=Yi x.Wires
 have eQ:=Yi x.Paces
 have eV:=Yi x.Watchers
 have eK:=Yi x.Lines
 have eB:=Yi x.Alarms
 have h00:([]:List (List T)).length=0:=rfl
 refine Con.of Tryz.func44 J Tryz.ntmps44 J (fun E => ?_)
 repeat (first | refine Qd ?_ | refine Qh ?_ | refine Qk ?_ | refine Q0 ?_)
 refine Wz [57,295,36] ?_;refine AL.weak (st':=(⟨209,[(1,Aqf 0),(2,Aqf 1)],[.box (mD x),.box zM]⟩:St)) (X4 [0,1] Aqc J ( Aqb) (.c J (.c J (.nil)))) ?_;refine Wz [6] ?_
 repeat (first | refine Qd ?_ | refine Qh ?_ | refine Qk ?_ | refine Q0 ?_)
 refine AWP.pre (st':=(⟨209,[(1,Aqf 0),(2,Aqf 1)],[.box (mD x),.box zM]⟩:St)) ?_ (X4 [0,1] Aqc J ( Aqb) (.c J (.c J (.nil))))
 refine Xg [[],[0],[0,1],[],[3],[],[5],[],[7],[],[9],(u9 11),[],(u9 13)] [[],[14],[14,15],[],[17],[],[19],[],[21],[],[23],[14,15,16,17,18,19,20,21,22,23,24],[],[3,14,15,16,17,18,19,20,21,22,23,24,25]] [[3,17,18,19,20,21,22,23,24],[3,17,18,19,20,21,22,23,24],[3,17,18,19,20,21,22,23,24],[3,14,15,16,19,20,21,22,23,24],[3,14,15,16,19,20,21,22,23,24],[3,14,15,16,17,18,21,22,23,24],[3,14,15,16,17,18,21,22,23,24],[3,14,15,16,17,18,19,20,23,24],[3,14,15,16,17,18,19,20,23,24],[3,14,15,16,17,18,19,20,21,22],[3,14,15,16,17,18,19,20,21,22],[3],[14,15,16,17,18,19,20,21,22,23,24,25],[]] J ?_;refine Wz [200,190] ?_;refine DR.s (Zs J J (c1) J J J) J J ?_;refine Wz [8,8,8,8] ?_;refine DR.s (x := .o (.ag (mX x (.ref 2) nv nv nv nv nv nv nv nv))) (Zr J J J J Aqb) J J ?_;refine Wz [235,13] ?_;refine AL.weak (st':=(⟨209,[(1,Aqf 0),(2,Aqf 1),(3,Aqf 2),(25,.o (.ag (mX x (.ref 3) nv nv nv nv nv nv nv nv)))],[.box (mD x),.box zM,.box zM,.row 1 (els x.Level.Rows)]⟩:St)) (X4 [0,1,3,2] Aqc J ( Aqb) (.c J (.c J (.c J (.c J (.nil)))))) ?_;refine Qy J J J J J J J J J ?_;refine AL.weak (st':=(⟨209,[(1,Aqf 0),(2,Aqf 1),(3,Aqf 2)],[.box (mD x),.box zM,.box (mX x (.ref 3) nv nv nv nv nv nv nv nv),.row 1 (els x.Level.Rows)]⟩:St)) (X4 [0,1,2,3] Aqc J ( Aqb) (.c J (.c J (.c J (.nil))))) ?_;refine Wz [6,11] ?_
 refine AWP.pre ?_ (Wk.nilbox (p:=2) (i:=3) 1 J J)
 refine Xh (fun m st=>∃ k:Nat,k+m=x.Scripts.length∧(True)∧st=(⟨209,[(1,Aqf 0),(2,Aqf 1),(3,Aqf 2),(4,I k)],[.box (mD x),.box zM,.box (mX x (.ref 3) (.ref 4) nv nv nv nv nv nv nv),.row 1 (els x.Level.Rows),.row 1 (els (x.Scripts.take k))]⟩:St)) (x.Scripts.length) ⟨_,⟨0,Aqa,trivial,J⟩,X3 [0,1,2,3,4] Aqb⟩ ?_
 rintro m_A _ ⟨k,hk_A,hp_A,rfl⟩
 have hl2:(els (x.Scripts.take k)).length=k:=by rw[Yi]; simp; omega
 by_cases h3:k<x.Scripts.length
 ·have f3:decide ((k:Int)<((els x.Scripts).length:Int))=true:=Gqb Aqa 
  have hat:=Yg h3
  have hm:=Gqe h3
  have hsn:=Yk h3
  generalize x.Scripts[k]=u at hat hm hsn
  have hrk:=wS u hm
  have hlk:=Yi u
  refine Wz [56,89,82] ?_
  refine AWP.pre (st':=(⟨209,[(1,Aqf 0),(2,Aqf 1),(3,Aqf 2),(4,I k)],[.box (mD x),.box zM,.box (mX x (.ref 3) (.ref 4) nv nv nv nv nv nv nv),.row 1 (els x.Level.Rows),.row 1 (els (x.Scripts.take k))]⟩:St)) ?_ (X4 [0,1,2,3,4] Aqc J ( Aqb) (.c J (.c J (.c J (.c J (.nil))))))
  cases u with
  |nil =>
   refine Xg u8_33 u8_36 u8_37 J ?_;refine Wz [8,186,8,66,29,234,145,13] ?_;refine AL.weak (Wk.sbnil (q:=5) 1 J J) ?_;refine Wz [131,132,99] ?_
   exact⟨x.Scripts.length-(k+1),Aqa,_,⟨k+1,Aqa,trivial,J⟩,(by rw[hsn]; exact X3 [0,1,2,3,4] Aqb)⟩
  |cons a rs =>
   have hpos:0<(els (a::rs)).length:=by rw[Yi]; simp
   refine Xg u8_33 u8_36 u8_37 J ?_;refine Wz [8,186,8,66,29] ?_;refine DR.s (q_appz J J J J J J (Yj _) (Yh _) hpos Aqa Aqa) J J ?_;refine Wz [145,13,131,132,99] ?_
   exact⟨x.Scripts.length-(k+1),Aqa,_,⟨k+1,Aqa,trivial,J⟩,(by rw[hsn]; exact X3 [0,1,2,3,4] Aqb)⟩
 have f3:decide ((k:Int)<((els x.Scripts).length:Int))=false:=Gqa Aqa 
 have hk:x.Scripts.take k=x.Scripts:=Gqh Aqa 
 rw[hk]
 clear hl2 h3 hk
 refine Wz [56,89,44,20,11] ?_
 refine AWP.pre ?_ (Wk.nilbox (p:=2) (i:=4) 23 J J)
 refine Xh (fun m st=>∃ k:Nat,k+m=x.Peers.length∧(True)∧st=(⟨209,[(1,Aqf 0),(2,Aqf 1),(3,Aqf 2),(5,I k)],[.box (mD x),.box zM,.box (mX x (.ref 3) (.ref 4) (.ref 5) nv nv nv nv nv nv),.row 1 (els x.Level.Rows),.row 1 (els x.Scripts),.row 23 (els (x.Peers.take k))]⟩:St)) (x.Peers.length) ⟨_,⟨0,Aqa,trivial,J⟩,X3 [0,1,2,3,4,5] Aqb⟩ ?_
 rintro m_B _ ⟨k,hk_B,hp_B,rfl⟩
 have hl2:(els (x.Peers.take k)).length=k:=by rw[Yi]; simp; omega
 by_cases h3:k<x.Peers.length
 ·have f3:decide ((k:Int)<((els x.Peers).length:Int))=true:=Gqb Aqa 
  have hat:=Yg h3
  have hm:=Gqe h3
  have hsn:=Yk h3
  generalize x.Peers[k]=u at hat hm hsn
  have cP:=S_l04Copy u (peer_in2 (gP.2 u hm) (wP u hm))
  refine Wz [56,89,82] ?_
  refine AWP.pre (st':=(⟨209,[(1,Aqf 0),(2,Aqf 1),(3,Aqf 2),(5,I k)],[.box (mD x),.box zM,.box (mX x (.ref 3) (.ref 4) (.ref 5) nv nv nv nv nv nv),.row 1 (els x.Level.Rows),.row 1 (els x.Scripts),.row 23 (els (x.Peers.take k))]⟩:St)) ?_ (X4 [0,1,2,3,4,5] Aqc J ( Aqb) (.c J (.c J (.c J (.c J (.nil))))))
  refine Xg u8_38 [[],[52],[],[54],[],[54,55,56],[54,55,56,57],[54,55,56,57,58],[54,55,56,57,58,59],[52,53,54,55,56,57,58,59,60],[52,53,54,55,56,57,58,59,60,61],[52,53,54,55,56,57,58,59,60,61,62]] [[54,55,56,57,58,59,60],[54,55,56,57,58,59,60],[52,53,56],[52,53,56],[52,53,54,55],[52,53],[52,53],[52,53],[52,53],[],[],[]] J ?_;refine Wz [8,8,66,192] ?_;refine DR.s (Zs J J (cP) J J J) J J ?_;refine Wz [145,13] ?_;refine AL.weak (st':=(⟨209,[(1,Aqf 0),(2,Aqf 1),(3,Aqf 2),(5,I k),(53,Aqg 5),(60,.o (.c (.sb 16 1 23)))],[.box (mD x),.box zM,.box (mX x (.ref 3) (.ref 4) (.ref 5) nv nv nv nv nv nv),.row 1 (els x.Level.Rows),.row 1 (els x.Scripts),.row 23 (els (x.Peers.take k)),.row 1 (els u.Tracks),.row 1 (els u.Base.Level.Rows),.row 1 (els u.Base.Scores),.row 9 (els u.Base.Bodies),.row 1 (els u.Now.Level.Rows),.row 1 (els u.Now.Scores),.row 9 (els u.Now.Bodies),.row 1 (els u.Used),.row 2 (els u.Saves),.row 1 (els u.Sums),.box (pC u 6 7 8 9 10 11 12 13 14 15)]⟩:St)) (X4 [0,1,2,3,4,5,6,7,8,9,10,11,12,13,14,15,16] Aqc J ( Aqb) (.c J (.c J (.c J (.c J (.c J (.c J (.nil)))))))) ?_;refine Xv J J J J J J J J J J J J J J Aqa Aqa  ?_;refine AL.weak (st':=(⟨209,[(1,Aqf 0),(2,Aqf 1),(3,Aqf 2),(5,I k),(61,Aqg 5)],[.box (mD x),.box zM,.box (mX x (.ref 3) (.ref 4) .un nv nv nv nv nv nv),.row 1 (els x.Level.Rows),.row 1 (els x.Scripts),.row 23 (els (x.Peers.take k) ++ [Enc.e u])]⟩:St)) (X4 [0,1,2,3,4,5] Aqc J ( Aqb) (.c J (.c J (.c J (.c J (.c J (.nil))))))) ?_;refine Wz [132,99] ?_
  exact⟨x.Peers.length-(k+1),Aqa,_,⟨k+1,Aqa,trivial,J⟩,(by rw[hsn]; exact X3 [0,1,2,3,4,5] Aqb)⟩
 have f3:decide ((k:Int)<((els x.Peers).length:Int))=false:=Gqa Aqa 
 have hk:x.Peers.take k=x.Peers:=Gqh Aqa 
 rw[hk]
 clear hl2 h3 hk
 refine Wz [56,89,44,20,11] ?_
 refine AWP.pre ?_ (Wk.nilbox (p:=2) (i:=5) 1 J J)
 refine Xh (fun m st=>∃ k:Nat,k+m=x.Wires.length∧(True)∧st=(⟨209,[(1,Aqf 0),(2,Aqf 1),(3,Aqf 2),(6,I k)],[.box (mD x),.box zM,.box (mX x (.ref 3) (.ref 4) (.ref 5) (.ref 6) nv nv nv nv nv),.row 1 (els x.Level.Rows),.row 1 (els x.Scripts),.row 23 (els x.Peers),.row 1 (els (x.Wires.take k))]⟩:St)) (x.Wires.length) ⟨_,⟨0,Aqa,trivial,J⟩,X3 [0,1,2,3,4,5,6] Aqb⟩ ?_
 rintro m_C _ ⟨k,hk_C,hp_C,rfl⟩
 have hl2:(els (x.Wires.take k)).length=k:=by rw[Yi]; simp; omega
 by_cases h3:k<x.Wires.length
 ·have f3:decide ((k:Int)<((els x.Wires).length:Int))=true:=Gqb Aqa 
  have hat:=Yg h3
  have hm:=Gqe h3
  have hsn:=Yk h3
  generalize x.Wires[k]=u at hat hm hsn
  obtain⟨lu,wu⟩:=Yy (wW u hm)
  have eu:=Yi u
  refine Wz [56,89,82,3,161,2,11] ?_;refine Xh (fun m st=>∃ j:Nat,j+m=u.length∧(True)∧st=(⟨209,[(1,Aqf 0),(2,Aqf 1),(3,Aqf 2),(6,I k),(7,Aqg 7),(8,I j)],[.box (mD x),.box zM,.box (mX x (.ref 3) (.ref 4) (.ref 5) (.ref 6) nv nv nv nv nv),.row 1 (els x.Level.Rows),.row 1 (els x.Scripts),.row 23 (els x.Peers),.row 1 (els (x.Wires.take k)),.row 10 (els (u.take j))]⟩:St)) (u.length) ⟨_,⟨0,Aqa,trivial,J⟩,X3 [0,1,2,3,4,5,6,7] Aqb⟩ ?_
  rintro m_J _ ⟨j,hk_J,hp_J,rfl⟩
  have hl4:(els (u.take j)).length=j:=by rw[Yi]; simp; omega
  by_cases h5:j<u.length
  ·have f5:decide ((j:Int)<((els u).length:Int))=true:=Gqb Aqa 
   have hat2:=Yg h5
   have cw:=S_l05Copy u[j] (wu _ (Gqe h5))
   have hsn2:=Yk h5
   generalize u[j]=v at hat2 cw hsn2
   refine Wz [56,19,0,80,14,82,94,19,0,133,114,46] ?_;refine M1 (Zs J J (cw) J J J) J J ?_;refine Wz [138,131,87] ?_
   exact⟨u.length-(j+1),Aqa,_,⟨j+1,Aqa,trivial,J⟩,(by rw[hsn2]; exact X3 [0,1,2,3,4,5,6,7] Aqb)⟩
  have f5:decide ((j:Int)<((els u).length:Int))=false:=Gqa Aqa 
  have hk2:u.take j=u:=Gqh Aqa 
  rw[hk2]
  clear hl4 h5 hk2
  refine Wz [56,19,0,80,14,44,20,57,19,0,138,131,132,99] ?_
  exact⟨x.Wires.length-(k+1),Aqa,_,⟨k+1,Aqa,trivial,J⟩,(by rw[hsn]; exact X3 [0,1,2,3,4,5,6] Aqb)⟩
 have f3:decide ((k:Int)<((els x.Wires).length:Int))=false:=Gqa Aqa 
 have hk:x.Wires.take k=x.Wires:=Gqh Aqa 
 rw[hk]
 clear hl2 h3 hk
 refine Wz [56,89,44,20,11] ?_
 refine AWP.pre ?_ (Wk.nilbox (p:=2) (i:=6) 1 J J)
 refine Xh (fun m st=>∃ k:Nat,k+m=x.Paces.length∧(True)∧st=(⟨209,[(1,Aqf 0),(2,Aqf 1),(3,Aqf 2),(9,I k)],[.box (mD x),.box zM,.box (mX x (.ref 3) (.ref 4) (.ref 5) (.ref 6) (.ref 7) nv nv nv nv),.row 1 (els x.Level.Rows),.row 1 (els x.Scripts),.row 23 (els x.Peers),.row 1 (els x.Wires),.row 1 (els (x.Paces.take k))]⟩:St)) (x.Paces.length) ⟨_,⟨0,Aqa,trivial,J⟩,X3 [0,1,2,3,4,5,6,7] Aqb⟩ ?_
 rintro m_D _ ⟨k,hk_D,hp_D,rfl⟩
 have hl2:(els (x.Paces.take k)).length=k:=by rw[Yi]; simp; omega
 by_cases h3:k<x.Paces.length
 ·have f3:decide ((k:Int)<((els x.Paces).length:Int))=true:=Gqb Aqa 
  have hat:=Yg h3
  have hm:=Gqe h3
  have hsn:=Yk h3
  generalize x.Paces[k]=u at hat hm hsn
  have hrk:=(Yy (wQ u hm)).1
  have hlk:=Yi u
  refine Wz [56,89,82] ?_
  refine AWP.pre (st':=(⟨209,[(1,Aqf 0),(2,Aqf 1),(3,Aqf 2),(9,I k)],[.box (mD x),.box zM,.box (mX x (.ref 3) (.ref 4) (.ref 5) (.ref 6) (.ref 7) nv nv nv nv),.row 1 (els x.Level.Rows),.row 1 (els x.Scripts),.row 23 (els x.Peers),.row 1 (els x.Wires),.row 1 (els (x.Paces.take k))]⟩:St)) ?_ (X4 [0,1,2,3,4,5,6,7] Aqc J ( Aqb) (.c J (.c J (.c J (.c J (.nil))))))
  cases u with
  |nil =>
   refine Xg u8_33 u8_39 u8_40 J ?_;refine Wz [8,186,8,66,29,234,145,13] ?_;refine AL.weak (Wk.sbnil (q:=8) 5 J J) ?_;refine Wz [131,132,99] ?_
   exact⟨x.Paces.length-(k+1),Aqa,_,⟨k+1,Aqa,trivial,J⟩,(by rw[hsn]; exact X3 [0,1,2,3,4,5,6,7] Aqb)⟩
  |cons a rs =>
   have hpos:0<(els (a::rs)).length:=by rw[Yi]; simp
   refine Xg u8_33 u8_39 u8_40 J ?_;refine Wz [8,186,8,66,29] ?_;refine DR.s (q_appz J J J J J J (Yj _) (Yh _) hpos Aqa Aqa) J J ?_;refine Wz [145,13,131,132,99] ?_
   exact⟨x.Paces.length-(k+1),Aqa,_,⟨k+1,Aqa,trivial,J⟩,(by rw[hsn]; exact X3 [0,1,2,3,4,5,6,7] Aqb)⟩
 have f3:decide ((k:Int)<((els x.Paces).length:Int))=false:=Gqa Aqa 
 have hk:x.Paces.take k=x.Paces:=Gqh Aqa 
 rw[hk]
 clear hl2 h3 hk
 refine Wz [56,89,44,20,11] ?_
 refine AWP.pre ?_ (Wk.nilbox (p:=2) (i:=7) 1 J J)
 refine Xh (fun m st=>∃ k:Nat,k+m=x.Acks.length∧(True)∧st=(⟨209,[(1,Aqf 0),(2,Aqf 1),(3,Aqf 2),(10,I k)],[.box (mD x),.box zM,.box (mX x (.ref 3) (.ref 4) (.ref 5) (.ref 6) (.ref 7) (.ref 8) nv nv nv),.row 1 (els x.Level.Rows),.row 1 (els x.Scripts),.row 23 (els x.Peers),.row 1 (els x.Wires),.row 1 (els x.Paces),.row 1 (els (x.Acks.take k))]⟩:St)) (x.Acks.length) ⟨_,⟨0,Aqa,trivial,J⟩,X3 [0,1,2,3,4,5,6,7,8] Aqb⟩ ?_
 rintro m_G _ ⟨k,hk_G,hp_G,rfl⟩
 have hl2:(els (x.Acks.take k)).length=k:=by rw[Yi]; simp; omega
 by_cases h3:k<x.Acks.length
 ·have f3:decide ((k:Int)<((els x.Acks).length:Int))=true:=Gqb Aqa 
  have hat:=Yg h3
  have hm:=Gqe h3
  have hsn:=Yk h3
  generalize x.Acks[k]=u at hat hm hsn
  have hrk:=wA u hm
  have hlk:=Yi u
  refine Wz [56,89,82] ?_
  refine AWP.pre (st':=(⟨209,[(1,Aqf 0),(2,Aqf 1),(3,Aqf 2),(10,I k)],[.box (mD x),.box zM,.box (mX x (.ref 3) (.ref 4) (.ref 5) (.ref 6) (.ref 7) (.ref 8) nv nv nv),.row 1 (els x.Level.Rows),.row 1 (els x.Scripts),.row 23 (els x.Peers),.row 1 (els x.Wires),.row 1 (els x.Paces),.row 1 (els (x.Acks.take k))]⟩:St)) ?_ (X4 [0,1,2,3,4,5,6,7,8] Aqc J ( Aqb) (.c J (.c J (.c J (.c J (.nil))))))
  cases u with
  |nil =>
   refine Xg u8_33 u8_41 u8_42 J ?_;refine Wz [8,186,8,66,29,234,145,13] ?_;refine AL.weak (Wk.sbnil (q:=9) 1 J J) ?_;refine Wz [131,132,99] ?_
   exact⟨x.Acks.length-(k+1),Aqa,_,⟨k+1,Aqa,trivial,J⟩,(by rw[hsn]; exact X3 [0,1,2,3,4,5,6,7,8] Aqb)⟩
  |cons a rs =>
   have hpos:0<(els (a::rs)).length:=by rw[Yi]; simp
   refine Xg u8_33 u8_41 u8_42 J ?_;refine Wz [8,186,8,66,29] ?_;refine DR.s (q_appz J J J J J J (Yj _) (Yh _) hpos Aqa Aqa) J J ?_;refine Wz [145,13,131,132,99] ?_
   exact⟨x.Acks.length-(k+1),Aqa,_,⟨k+1,Aqa,trivial,J⟩,(by rw[hsn]; exact X3 [0,1,2,3,4,5,6,7,8] Aqb)⟩
 have f3:decide ((k:Int)<((els x.Acks).length:Int))=false:=Gqa Aqa 
 have hk:x.Acks.take k=x.Acks:=Gqh Aqa 
 rw[hk]
 clear hl2 h3 hk
 refine Wz [56,89,44,20,11] ?_
 refine AWP.pre ?_ (Wk.nilbox (p:=2) (i:=9) 6 J J)
 refine Xh (fun m st=>∃ k:Nat,k+m=x.Watchers.length∧(True)∧st=(⟨209,[(1,Aqf 0),(2,Aqf 1),(3,Aqf 2),(11,I k)],[.box (mD x),.box zM,.box (mX x (.ref 3) (.ref 4) (.ref 5) (.ref 6) (.ref 7) (.ref 8) (.ref 9) nv nv),.row 1 (els x.Level.Rows),.row 1 (els x.Scripts),.row 23 (els x.Peers),.row 1 (els x.Wires),.row 1 (els x.Paces),.row 1 (els x.Acks),.row 6 (els (x.Watchers.take k))]⟩:St)) (x.Watchers.length) ⟨_,⟨0,Aqa,trivial,J⟩,X3 [0,1,2,3,4,5,6,7,8,9] Aqb⟩ ?_
 rintro m_K _ ⟨k,hk_K,hp_K,rfl⟩
 have hl2:(els (x.Watchers.take k)).length=k:=by rw[Yi]; simp; omega
 by_cases h3:k<x.Watchers.length
 ·have f3:decide ((k:Int)<((els x.Watchers).length:Int))=true:=Gqb Aqa 
  have hat:=Yg h3
  have hm:=Gqe h3
  have hsn:=Yk h3
  generalize x.Watchers[k]=u at hat hm hsn
  have cV:=S_copyWorld u.World (gV.2 u hm).1 (sp_in (wV u hm)).1 (sp_in (wV u hm)).2.1 (sp_in (wV u hm)).2.2
  refine Wz [56,89,82] ?_
  refine AWP.pre (st':=(⟨209,[(1,Aqf 0),(2,Aqf 1),(3,Aqf 2),(11,I k)],[.box (mD x),.box zM,.box (mX x (.ref 3) (.ref 4) (.ref 5) (.ref 6) (.ref 7) (.ref 8) (.ref 9) nv nv),.row 1 (els x.Level.Rows),.row 1 (els x.Scripts),.row 23 (els x.Peers),.row 1 (els x.Wires),.row 1 (els x.Paces),.row 1 (els x.Acks),.row 6 (els (x.Watchers.take k))]⟩:St)) ?_ (X4 [0,1,2,3,4,5,6,7,8,9] Aqc J ( Aqb) (.c J (.c J (.c J (.c J (.nil))))))
  refine Xg [[],[0],[],[2],[],[2,3,4],[2,3,4,5],[2,3,4,5,6],[2,3,4,5,6,7],[],[9],[],[9,10,11],[9,10,11,12],[9,10,11,12,13],[2,3,4,5,6,7,8,9,10,11,12,13,14],[2,3,4,5,6,7,8,9,10,11,12,13,14,15],(u9 17),(u9 18),(u9 19)] [[],[144],[],[146],[],[146,147,148],[146,147,148,149],[146,147,148,149,150],[146,147,148,149,150,151],[],[153],[],[153,154,155],[153,154,155,156],[153,154,155,156,157],[146,147,148,149,150,151,152,153,154,155,156,157,158],[146,147,148,149,150,151,152,153,154,155,156,157,158,159],[144,145,146,147,148,149,150,151,152,153,154,155,156,157,158,159,160],[144,145,146,147,148,149,150,151,152,153,154,155,156,157,158,159,160,161],[144,145,146,147,148,149,150,151,152,153,154,155,156,157,158,159,160,161,162]] [[146,147,148,149,150,151,152,153,154,155,156,157,158,159,160],[146,147,148,149,150,151,152,153,154,155,156,157,158,159,160],[144,145,148,153,154,155,156,157,158],[144,145,148,153,154,155,156,157,158],[144,145,146,147,153,154,155,156,157,158],[144,145,153,154,155,156,157,158],[144,145,153,154,155,156,157,158],[144,145,153,154,155,156,157,158],[144,145,153,154,155,156,157,158],[144,145,146,147,148,149,150,151,152,155],[144,145,146,147,148,149,150,151,152,155],[144,145,146,147,148,149,150,151,152,153,154],[144,145,146,147,148,149,150,151,152],[144,145,146,147,148,149,150,151,152],[144,145,146,147,148,149,150,151,152],[144,145],[144,145],[],[],[]] J ?_;refine Wz [8,8,66,173,192] ?_;refine DR.s (Zs J J (cV) J J J) J J ?_;refine Wz [8,66,173,29,287,145,13,131,132,99] ?_
  exact⟨x.Watchers.length-(k+1),Aqa,_,⟨k+1,Aqa,trivial,J⟩,(by rw[hsn]; exact X3 [0,1,2,3,4,5,6,7,8,9] Aqb)⟩
 have f3:decide ((k:Int)<((els x.Watchers).length:Int))=false:=Gqa Aqa 
 have hk:x.Watchers.take k=x.Watchers:=Gqh Aqa 
 rw[hk]
 clear hl2 h3 hk
 refine Wz [56,89,44,20,11] ?_
 refine AWP.pre ?_ (Wk.nilbox (p:=2) (i:=10) 10 J J)
 refine Xh (fun m st=>∃ k:Nat,k+m=x.Lines.length∧(True)∧st=(⟨209,[(1,Aqf 0),(2,Aqf 1),(3,Aqf 2),(12,I k)],[.box (mD x),.box zM,.box (mX x (.ref 3) (.ref 4) (.ref 5) (.ref 6) (.ref 7) (.ref 8) (.ref 9) (.ref 10) nv),.row 1 (els x.Level.Rows),.row 1 (els x.Scripts),.row 23 (els x.Peers),.row 1 (els x.Wires),.row 1 (els x.Paces),.row 1 (els x.Acks),.row 6 (els x.Watchers),.row 10 (els (x.Lines.take k))]⟩:St)) (x.Lines.length) ⟨_,⟨0,Aqa,trivial,J⟩,X3 [0,1,2,3,4,5,6,7,8,9,10] Aqb⟩ ?_
 rintro m_M _ ⟨k,hk_M,hp_M,rfl⟩
 have hl2:(els (x.Lines.take k)).length=k:=by rw[Yi]; simp; omega
 by_cases h3:k<x.Lines.length
 ·have f3:decide ((k:Int)<((els x.Lines).length:Int))=true:=Gqb Aqa 
  have hat:=Yg h3
  have hm:=Gqe h3
  have hsn:=Yk h3
  generalize x.Lines[k]=u at hat hm hsn
  have cw:=S_l05Copy u (wK u hm)
  refine Wz [56,89,82] ?_
  refine AWP.pre (st':=(⟨209,[(1,Aqf 0),(2,Aqf 1),(3,Aqf 2),(12,I k)],[.box (mD x),.box zM,.box (mX x (.ref 3) (.ref 4) (.ref 5) (.ref 6) (.ref 7) (.ref 8) (.ref 9) (.ref 10) nv),.row 1 (els x.Level.Rows),.row 1 (els x.Scripts),.row 23 (els x.Peers),.row 1 (els x.Wires),.row 1 (els x.Paces),.row 1 (els x.Acks),.row 6 (els x.Watchers),.row 10 (els (x.Lines.take k))]⟩:St)) ?_ (X4 [0,1,2,3,4,5,6,7,8,9,10] Aqc J ( Aqb) (.c J (.c J (.c J (.c J (.nil))))))
  refine Xg u8_38 [[],[170],[],[172],[],[172,173,174],[172,173,174,175],[172,173,174,175,176],[172,173,174,175,176,177],[170,171,172,173,174,175,176,177,178],[170,171,172,173,174,175,176,177,178,179],[170,171,172,173,174,175,176,177,178,179,180]] [[172,173,174,175,176,177,178],[172,173,174,175,176,177,178],[170,171,174],[170,171,174],[170,171,172,173],[170,171],[170,171],[170,171],[170,171],[],[],[]] J ?_;refine Wz [8,8,66,192] ?_;refine DR.s (Zs J J (cw) J J J) J J ?_;refine Wz [145,13,131,132,99] ?_
  exact⟨x.Lines.length-(k+1),Aqa,_,⟨k+1,Aqa,trivial,J⟩,(by rw[hsn]; exact X3 [0,1,2,3,4,5,6,7,8,9,10] Aqb)⟩
 have f3:decide ((k:Int)<((els x.Lines).length:Int))=false:=Gqa Aqa 
 have hk:x.Lines.take k=x.Lines:=Gqh Aqa 
 rw[hk]
 clear hl2 h3 hk
 refine Wz [56,89,44,20,11] ?_
 refine AWP.pre ?_ (Wk.nilbox (p:=2) (i:=11) 2 J J)
 refine Xh (fun m st=>∃ k:Nat,k+m=x.Alarms.length∧(True)∧st=(⟨209,[(1,Aqf 0),(2,Aqf 1),(3,Aqf 2),(13,I k)],[.box (mD x),.box zM,.box (mX x (.ref 3) (.ref 4) (.ref 5) (.ref 6) (.ref 7) (.ref 8) (.ref 9) (.ref 10) (.ref 11)),.row 1 (els x.Level.Rows),.row 1 (els x.Scripts),.row 23 (els x.Peers),.row 1 (els x.Wires),.row 1 (els x.Paces),.row 1 (els x.Acks),.row 6 (els x.Watchers),.row 10 (els x.Lines),.row 2 (els (x.Alarms.take k))]⟩:St)) (x.Alarms.length) ⟨_,⟨0,Aqa,trivial,J⟩,X3 [0,1,2,3,4,5,6,7,8,9,10,11] Aqb⟩ ?_
 rintro m_R _ ⟨k,hk_R,hp_R,rfl⟩
 have hl2:(els (x.Alarms.take k)).length=k:=by rw[Yi]; simp; omega
 by_cases h3:k<x.Alarms.length
 ·have f3:decide ((k:Int)<((els x.Alarms).length:Int))=true:=Gqb Aqa 
  have hat:=Yg h3
  have hm:=Gqe h3
  have hsn:=Yk h3
  generalize x.Alarms[k]=u at hat hm hsn
  have hrk:=(Yy (xs:=u.Parts) (wB u hm)).1
  have hlk:=Yi u.Parts
  obtain⟨tk,u⟩:=u
  refine Wz [56,89,82] ?_
  refine AWP.pre (st':=(⟨209,[(1,Aqf 0),(2,Aqf 1),(3,Aqf 2),(13,I k)],[.box (mD x),.box zM,.box (mX x (.ref 3) (.ref 4) (.ref 5) (.ref 6) (.ref 7) (.ref 8) (.ref 9) (.ref 10) (.ref 11)),.row 1 (els x.Level.Rows),.row 1 (els x.Scripts),.row 23 (els x.Peers),.row 1 (els x.Wires),.row 1 (els x.Paces),.row 1 (els x.Acks),.row 6 (els x.Watchers),.row 10 (els x.Lines),.row 2 (els (x.Alarms.take k))]⟩:St)) ?_ (X4 [0,1,2,3,4,5,6,7,8,9,10,11] Aqc J ( Aqb) (.c J (.c J (.c J (.c J (.nil))))))
  cases u with
  |nil =>
   refine Xg u8_43 u8_44 u8_45 J ?_;refine Wz [8,8,66,173,29,186,8,66,173,29,234] ?_;refine DR.s (x := .o (.ag [jn tk,.sb 12 0 1])) (Zr J J J J Aqb) J J ?_;refine Wz [145,13] ?_;refine AL.weak (Wk.sbnil (q:=12) 1 J J) ?_;refine Wz [131,132,99] ?_
   exact⟨x.Alarms.length-(k+1),Aqa,_,⟨k+1,Aqa,trivial,J⟩,(by rw[hsn]; exact X3 [0,1,2,3,4,5,6,7,8,9,10,11] Aqb)⟩
  |cons a rs =>
   have hpos:0<(els (a::rs)).length:=by rw[Yi]; simp
   refine Xg u8_43 u8_44 u8_45 J ?_;refine Wz [8,8,66,173,29,186,8,66,173,29] ?_;refine DR.s (q_appz J J J J J J (Yj _) (Yh _) hpos Aqa Aqa) J J ?_;refine DR.s (x := .o (.ag [jn tk,.ref 13])) (Zr J J J J Aqb) J J ?_;refine Wz [145,13,131,132,99] ?_
   exact⟨x.Alarms.length-(k+1),Aqa,_,⟨k+1,Aqa,trivial,J⟩,(by rw[hsn]; exact X3 [0,1,2,3,4,5,6,7,8,9,10,11] Aqb)⟩
 have f3:decide ((k:Int)<((els x.Alarms).length:Int))=false:=Gqa Aqa 
 have hk:x.Alarms.take k=x.Alarms:=Gqh Aqa 
 rw[hk]
 clear hl2 h3 hk
 refine Wz [56,89,44,20,100,49] ?_
 exact Xk J J J J (X1 [3,4,5,6,7,8,9,10,11] Aqc J J J)
end
section
open Go.RowKit

theorem I_PaceOk (q:TPace):Con Tryz.prog 232 [] [ag q] [] (B (paceOk q)):=by
 refine Con.of Tryz.func232 J Tryz.ntmps232 J (fun E => ?_)
 refine Wz [21,23] ?_;refine zx (Qj J J (Xo q.Newest 0 1000001) J) J ?_;refine Wz [58] ?_;refine zx (Qt.grdT J J J (.hit (.hit .stop)) (fun hgrd=>Qj J J (Xo q.Their 0 1000001) J)) J ?_;refine Wz [25,58] ?_;refine zx (Qt.grdT J J J (.hit (.hit .stop)) (fun hgrd=>Qj J J (Xo q.At 0 1000001) J)) J ?_;refine Wz [25,58] ?_;refine zx (Qt.grdT J J J (.hit (.hit .stop)) (fun hgrd=>Qj J J (Xo q.Trip 0 1000001) J)) J ?_;refine Wz [25,58] ?_;refine zx (Qt.grdT J J J (.hit (.hit .stop)) (fun hgrd=>Qj J J (Xo q.Samples 0 1000001) J)) J ?_;refine Wz [25,53] ?_
 exact Xl J J (X1 [] Aqc J J J)
theorem S_PaceOk (q:TPace):Con Tryz.prog 222 [] [ag q] [] (B (paceOk q)):=by
 refine Con.of Tryz.func222 J Tryz.ntmps222 J (fun E => ?_)
 refine Wz [21,23] ?_;refine zx (Qj J J (X0 q.Newest 0 1000001) J) J ?_;refine Wz [58] ?_;refine zx (Qt.grdT J J J (.hit (.hit .stop)) (fun hgrd=>Qj J J (X0 q.Their 0 1000001) J)) J ?_;refine Wz [25,58] ?_;refine zx (Qt.grdT J J J (.hit (.hit .stop)) (fun hgrd=>Qj J J (X0 q.At 0 1000001) J)) J ?_;refine Wz [25,58] ?_;refine zx (Qt.grdT J J J (.hit (.hit .stop)) (fun hgrd=>Qj J J (X0 q.Trip 0 1000001) J)) J ?_;refine Wz [25,58] ?_;refine zx (Qt.grdT J J J (.hit (.hit .stop)) (fun hgrd=>Qj J J (X0 q.Samples 0 1000001) J)) J ?_;refine Wz [25,53] ?_
 exact Xl J J (X1 [] Aqc J J J)
section
variable {w:TWire}
theorem wno1 (h:((!inR w.Seed 0 65535 || !inR w.Delay 0 12) || !inR w.Jitter 0 12)=true):wireOk w=false:=Gqa fun ⟨⟨a,b,c⟩,_⟩=>by rw[a,b,c] at h; exact absurd h Aqc 
theorem wno2 (h:((!inR w.Loss 0 100 || !inR w.Copies 0 100) || !inR w.Damage 0 100)=true):wireOk w=false:=Gqa fun ⟨_,⟨a,b,c⟩,_⟩=>by rw[a,b,c] at h; exact absurd h Aqc 
theorem flight_no {f:TFlight} (h:(!inR f.At 0 1100000 || !inR (f.Data.size:Int) 1 20000)=true):flightOk f=false:=by
 rw[flightOk]
 cases h1:inR f.At 0 1100000
 ·rfl
 ·rw[h1] at h; simpa using h
theorem flight_yes {f:TFlight} (h:(!inR f.At 0 1100000 || !inR (f.Data.size:Int) 1 20000)=false):flightOk f=true:=by
 rw[flightOk]
 simpa using h
theorem wire_all (h1:((!inR w.Seed 0 65535 || !inR w.Delay 0 12) || !inR w.Jitter 0 12)=false) (h2:((!inR w.Loss 0 100 || !inR w.Copies 0 100) || !inR w.Damage 0 100)=false) (h3:((!inR w.Now 0 1000000 || !inR w.Sent 0 1000000) || !inR w.Lost 0 1000000)=false) (h4:w.Flights.length≤200) (h5:w.Flights.all flightOk=true):wireOk w=true:=by
 simp only[Gql,Gqu] at h1 h2 h3
 exact Gqb ⟨⟨h1.1.1,h1.1.2,h1.2⟩,⟨h2.1.1,h2.1.2,h2.2⟩,⟨h3.1.1,h3.1.2,h3.2⟩,h4,h5⟩
theorem wire_S {n:Nat} (h5:w.Flights.all flightOk=true) (hl:n=w.Flights.length):(((((((((decide ((n:Int)≤200)&&inR w.Seed 0 65535)&&inR w.Delay 0 12)&&inR w.Jitter 0 12)&&inR w.Loss 0 100)&&inR w.Copies 0 100)&&inR w.Damage 0 100)&&inR w.Now 0 1000000)&&inR w.Sent 0 1000000)&&inR w.Lost 0 1000000)=wireOk w:=by
 subst hl
 rw[Bool.eq_iff_iff]
 simp only[Gqi,decide_eq_true_eq,wireOk,WireP,h5]
 constructor
 ·intro ⟨⟨⟨⟨⟨⟨⟨⟨⟨a,b⟩,c⟩,d⟩,e⟩,f⟩,g⟩,h⟩,i⟩,j⟩
  exact⟨⟨b,c,d⟩,⟨e,f,g⟩,⟨h,i,j⟩,Aqa,trivial⟩
 ·intro ⟨⟨b,c,d⟩,⟨e,f,g⟩,⟨h,i,j⟩,a,_⟩
  exact⟨⟨⟨⟨⟨⟨⟨⟨⟨Aqa,b⟩,c⟩,d⟩,e⟩,f⟩,g⟩,h⟩,i⟩,j⟩
theorem wno3 (h:((!inR w.Now 0 1000000 || !inR w.Sent 0 1000000) || !inR w.Lost 0 1000000)=true):wireOk w=false:=Gqa fun ⟨_,_,⟨a,b,c⟩,_⟩=>by rw[a,b,c] at h; exact absurd h Aqc 
end
theorem I_WireOk (x:TWire) (hg:Enc.gd x):Con Tryz.prog 231 [] [ag x] [] (B (wireOk x)):=by
 obtain⟨gSe,gDe,gJi,gLo,gCo,gDa,gNo,gFl,gSt,gLt⟩:=hg
 have hl:=Yi x.Flights
 refine Con.of Tryz.func231 J Tryz.ntmps231 J (fun E => ?_)
 refine Wz [21,34] ?_;refine zx (Qj J J (Xo x.Seed 0 65535) J) J ?_;refine Wz [5,102] ?_;refine zx (Qt.grdF J J J (.hit (.hit .stop)) (fun hgrd=>Qj J J (Xo x.Delay 0 12) J)) J ?_;refine Wz [104,98] ?_;refine zx (Qt.grdF J J J (.hit (.hit .stop)) (fun hgrd=>Qj J J (Xo x.Jitter 0 12) J)) J ?_;refine Wz [104,51] ?_
 refine Xb J (fun h1 => ?_) (fun h1 => ?_)
 ·rw[wno1 h1]
  refine Wz [39] ?_
  exact Xl J J (X1 [] Aqc J J J)
 refine AWP.pre (st':=(⟨_,[(1,Aqf 0)],[.box (Aqi x)]⟩:St)) ?_ (X3 [0] Aqb)
 refine Wz [15,34] ?_;refine zx (Qj J J (Xo x.Loss 0 100) J) J ?_;refine Wz [5,102] ?_;refine zx (Qt.grdF J J J (.hit (.hit .stop)) (fun hgrd=>Qj J J (Xo x.Copies 0 100) J)) J ?_;refine Wz [104,98] ?_;refine zx (Qt.grdF J J J (.hit (.hit .stop)) (fun hgrd=>Qj J J (Xo x.Damage 0 100) J)) J ?_;refine Wz [104,51] ?_
 refine Xb J (fun h2 => ?_) (fun h2 => ?_)
 ·rw[wno2 h2]
  refine Wz [39] ?_
  exact Xl J J (X1 [] Aqc J J J)
 refine AWP.pre (st':=(⟨_,[(1,Aqf 0)],[.box (Aqi x)]⟩:St)) ?_ (X3 [0] Aqb)
 refine Wz [15,34] ?_;refine zx (Qj J J (Xo x.Now 0 1000000) J) J ?_;refine Wz [5,102] ?_;refine zx (Qt.grdF J J J (.hit (.hit .stop)) (fun hgrd=>Qj J J (Xo x.Sent 0 1000000) J)) J ?_;refine Wz [104,98] ?_;refine zx (Qt.grdF J J J (.hit (.hit .stop)) (fun hgrd=>Qj J J (Xo x.Lost 0 1000000) J)) J ?_;refine Wz [104,51] ?_
 refine Xb J (fun h3 => ?_) (fun h3 => ?_)
 ·rw[wno3 h3]
  refine Wz [39] ?_
  exact Xl J J (X1 [] Aqc J J J)
 refine AWP.pre (st':=(⟨_,[(1,Aqf 0)],[.box (Aqi x)]⟩:St)) ?_ (X3 [0] Aqb)
 refine Wz [15,34,14,206,6] ?_
 refine Xb J (fun h4 => ?_) (fun h4 => ?_)
 ·have h4:=Gqc h4
  rw[show wireOk x=false from Gqa fun ⟨_,_,_,q,_⟩=>by omega]
  refine Wz [39] ?_
  exact Xl J J (X1 [] Aqc J J J)
 have h4:=Gqd h4
 refine AWP.pre (st':=(⟨_,[(1,Aqf 0)],[.box (Aqi x)]⟩:St)) ?_ (X3 [0] Aqb)
 refine Wz [15,34,117,97] ?_;refine Xh (fun m st=>∃ k:Nat,k+m=x.Flights.length∧((x.Flights.take k).all flightOk=true)∧st=(⟨_,[(1,Aqf 0),(58,L x.Flights),(59,I (els x.Flights).length),(60,I k)],[.box (Aqi x)]⟩:St)) (x.Flights.length) ⟨_,⟨0,Aqa,Aqd,J⟩,X3 [0] Aqb⟩ ?_
 rintro m_A _ ⟨k,hk_A,hp_A,rfl⟩
 refine Wz [3,38,17] ?_
 refine Xb J (fun h => ?_) (fun h => ?_)
 ·have h5:k<x.Flights.length:=by have:=Gqc h; omega
  have hat:=Yg h5
  refine Wz [7,3,46,36,48,23] ?_;refine zx (Qj J J (Xo x.Flights[k].At 0 1100000) J) J ?_;refine Wz [5,102] ?_;refine zx (Qt.grdF J J J (.hit (.hit .stop)) (fun hgrd=>Z5 J J J)) J ?_;refine zx (Qt.grdF J J J (.hit (.hit (.hit .stop))) (fun hgrd=>Qj J J (Xo x.Flights[k].Data.size 1 20000) J)) J ?_;refine Wz [252,51] ?_
  refine Xb J (fun h6 => ?_) (fun h6 => ?_)
  ·rw[show wireOk x=false from Gqa fun ⟨_,_,_,_,q⟩=>by rw[X9 h5 (flight_no h6)] at q; cases q]
   refine Wz [54] ?_
   exact Xl J J (X1 [] Aqc J J J)
  ·refine Wz [123,50,57,18,0,85] ?_
   refine Q0 ?_
   exact⟨x.Flights.length-(k+1),Aqa,_,⟨k+1,Aqa,X8 hp_A h5 (flight_yes h6),J⟩,X3 [0] Aqb⟩
 have h5:¬((k:Int)<(els x.Flights).length):=Gqd h
 rw[wire_all h1 h2 h3 Aqa (X7 hp_A Aqa)]
 refine Wz [20,67] ?_
 exact Xl J J (X1 [] Aqc J J J)
theorem S_WireOk (x:TWire) (hg:Enc.gd x):Con Tryz.prog 167 [] [ag x] [] (B (wireOk x)):=by
 obtain⟨gSe,gDe,gJi,gLo,gCo,gDa,gNo,gFl,gSt,gLt⟩:=hg
 have hl:=Yi x.Flights
 have hx:=gFl.1
 refine Con.of Tryz.func167 J Tryz.ntmps167 J (fun E => ?_)
 refine Wz [21,11] ?_;refine Xh (fun m st=>∃ k:Nat,k+m=x.Flights.length∧((x.Flights.take k).all flightOk=true)∧st=(⟨_,[(1,Aqf 0),(3,I k)],[.box (Aqi x)]⟩:St)) (x.Flights.length) ⟨_,⟨0,Aqa,Aqd,J⟩,X3 [0] Aqb⟩ ?_
 rintro m_A _ ⟨k,hk_A,hp_A,rfl⟩
 refine Wz [56,89,38] ?_
 refine Xb J (fun h => ?_) (fun h => ?_)
 ·have h5:k<x.Flights.length:=by have:=Gqc h; omega
  have hat:=Yg h5
  refine Wz [7,75,130,167] ?_;refine zx (Qj J J (X0 x.Flights[k].At 0 1100000) J) J ?_;refine Wz [5,102,166,226] ?_;refine zx (Qt.grdF J J J (.hit (.hit (.hit (.hit .stop)))) (fun hgrd=>Zx J J J J Aqc)) J ?_;refine zx (Qt.grdF J J J (.hit (.hit (.hit (.hit (.hit .stop))))) (fun hgrd=>Z7 J J J J)) J ?_;refine zx (Qt.grdF J J J (.hit (.hit (.hit (.hit (.hit (.hit .stop)))))) (fun hgrd=>Z5 J J J)) J ?_;refine zx (Qt.grdF J J J (.hit (.hit (.hit (.hit (.hit (.hit (.hit .stop))))))) (fun hgrd=>Qj J J (X0 x.Flights[k].Data.size 1 20000) J)) J ?_;refine zx (Qt.grdF J J J (.hit (.hit (.hit (.hit (.hit (.hit (.hit (.hit .stop)))))))) (fun hgrd=>Q4 J J J)) J ?_;refine Wz [51] ?_
  refine Xb J (fun h6 => ?_) (fun h6 => ?_)
  ·rw[show wireOk x=false from Gqa fun ⟨_,_,_,_,q⟩=>by rw[X9 h5 (flight_no h6)] at q; cases q]
   refine Wz [54] ?_
   exact Xl J J (X1 [] Aqc J J J)
  ·refine Wz [123,243,18] ?_
   refine Wz [2] ?_
   exact⟨x.Flights.length-(k+1),Aqa,_,⟨k+1,Aqa,X8 hp_A h5 (flight_yes h6),J⟩,X3 [0] Aqb⟩
 have h5:¬((k:Int)<(els x.Flights).length):=Gqd h
 have hall:=X7 hp_A Aqa 
 refine Wz [20,23,14,193,58] ?_;refine zx (Qt.grdT J J J (.hit (.hit .stop)) (fun hgrd=>Qj J J (X0 x.Seed 0 65535) J)) J ?_;refine Wz [25,58] ?_;refine zx (Qt.grdT J J J (.hit (.hit .stop)) (fun hgrd=>Qj J J (X0 x.Delay 0 12) J)) J ?_;refine Wz [25,58] ?_;refine zx (Qt.grdT J J J (.hit (.hit .stop)) (fun hgrd=>Qj J J (X0 x.Jitter 0 12) J)) J ?_;refine Wz [25,58] ?_;refine zx (Qt.grdT J J J (.hit (.hit .stop)) (fun hgrd=>Qj J J (X0 x.Loss 0 100) J)) J ?_;refine Wz [25,58] ?_;refine zx (Qt.grdT J J J (.hit (.hit .stop)) (fun hgrd=>Qj J J (X0 x.Copies 0 100) J)) J ?_;refine Wz [25,58] ?_;refine zx (Qt.grdT J J J (.hit (.hit .stop)) (fun hgrd=>Qj J J (X0 x.Damage 0 100) J)) J ?_;refine Wz [25,58] ?_;refine zx (Qt.grdT J J J (.hit (.hit .stop)) (fun hgrd=>Qj J J (X0 x.Now 0 1000000) J)) J ?_;refine Wz [25,58] ?_;refine zx (Qt.grdT J J J (.hit (.hit .stop)) (fun hgrd=>Qj J J (X0 x.Sent 0 1000000) J)) J ?_;refine Wz [25,58] ?_;refine zx (Qt.grdT J J J (.hit (.hit .stop)) (fun hgrd=>Qj J J (X0 x.Lost 0 1000000) J)) J ?_;refine Wz [25,53] ?_
 exact Xl J J (X1 [] Aqc J J (Xi (wire_S hall hl)))
end
section
open Go.RowKit

section
variable {m:TMatch} {k:Nat} {p:TPeer}
theorem pin_spec (h:peerIn m k p=true):(peerOk p=true∧p.Me=(k:Int)∧(p.Tracks.length:Int)=(m.Scripts.length:Int))∧p.Base.Level=m.Level∧p.Seed=m.Seed∧p.Delay=m.Delay:=by
 simp only[peerIn,Gqi,decide_eq_true_eq] at h
 exact⟨⟨h.1.1.1,h.1.1.2,h.1.2⟩,h.2.1.1,h.2.1.2,h.2.2⟩
theorem pin_no1 (h:((!peerOk p || decide (p.Me≠(k:Int))) || decide (((els p.Tracks).length:Int)≠((els m.Scripts).length:Int)))=true):¬peerIn m k p=true:=fun hp=>by
 obtain⟨⟨a,b,c⟩,_⟩:=pin_spec hp
 rw[a,Gqa (fun q=>q b),Yi,Yi,Gqa (fun q=>q c)] at h
 exact absurd h Aqc 
theorem pin_no2 (h:((!decide (p.Base.Level=m.Level) || decide (p.Seed≠m.Seed)) || decide (p.Delay≠m.Delay))=true):¬peerIn m k p=true:=fun hp=>by
 obtain⟨_,a,b,c⟩:=pin_spec hp
 rw[Gqb a,Gqa (fun q=>q b),Gqa (fun q=>q c)] at h
 exact absurd h Aqc 
theorem pin_yes (h:((!peerOk p || decide (p.Me≠(k:Int))) || decide (((els p.Tracks).length:Int)≠((els m.Scripts).length:Int)))=false) (h2:((!decide (p.Base.Level=m.Level) || decide (p.Seed≠m.Seed)) || decide (p.Delay≠m.Delay))=false):peerIn m k p=true:=by
 simp only[Gql,Gqu,decide_eq_false_iff_not,Classical.not_not,decide_eq_true_eq,Yi] at h h2
 simp only[peerIn,Gqi,decide_eq_true_eq]
 exact⟨⟨⟨h.1.1,h.1.2⟩,h.2⟩,⟨h2.1.1,h2.1.2⟩,h2.2⟩
theorem Kt {Q:Nat→Prop} (h:∀ i,i<k→Q i) (hk:Q k):∀ i,i<k+1→Q i:=fun i hi=>by
 by_cases e:i=k
 ·subst e; exact hk
 ·exact h i Aqa 
end
theorem I_peersOk (x:TMatch) (hg:Enc.gd x):Con Tryz.prog 136 [] [ag x] [] (B (peersM x)):=by
 obtain⟨gL,gS,gD,gSc,gP,gW,gPa,gA,gC,gWa,gLi,gAl,gB⟩:=hg
 have hlp:=Yi x.Peers
 have hx:=gP.1
 have hls:=Yi x.Scripts
 refine Con.of Tryz.func136 J Tryz.ntmps136 J (fun E => ?_)
 refine Wz [21,34,14,89,158,6] ?_
 refine Xb J (fun h1 => ?_) (fun h1 => ?_)
 ·have h1:=Gqc h1
  rw[show peersM x=false from dF fun hp=>h1 (by rw[hlp,hls,hp.1])]
  refine Wz [39] ?_
  exact Xl J J (X1 [] Aqc J J J)
 have h1:x.Peers.length=x.Scripts.length:=by have:=Gqd h1; omega
 refine AWP.pre (st':=(⟨_,[(1,Aqf 0)],[.box (Aqi x)]⟩:St)) ?_ (X3 [0] Aqb)
 refine Wz [15,34,117,97] ?_;refine Xh (fun m st=>∃ k:Nat,k+m=x.Peers.length∧((∀ i,i<k→∀ p,x.Peers[i]? = some p→peerIn x i p=true))∧st=(⟨_,[(1,Aqf 0),(13,L x.Peers),(14,I (els x.Peers).length),(15,I k)],[.box (Aqi x)]⟩:St)) (x.Peers.length) ⟨_,⟨0,Aqa,fun i hi=>absurd hi (Nat.not_lt_zero _),J⟩,X3 [0] Aqb⟩ ?_
 rintro m_A _ ⟨k,hk_A,hp_A,rfl⟩
 refine Wz [3,38,17] ?_
 refine Xb J (fun h => ?_) (fun h => ?_)
 ·have h3:k<x.Peers.length:=by have:=Gqc h; omega
  have hat:=Yg h3
  have hq:=Gqf h3
  have gp:=gP.2 _ (Gqe h3)
  generalize x.Peers[k]=p at hat hq gp
  have c1:=I_PeerOk p gp
  have c2:=I_sameLevel p.Base.Level x.Level gp.2.2.2.2.2.1.1
  repeat (first | refine Qd ?_ | refine Qh ?_ | refine Qk ?_ | refine Q0 ?_)
  refine Wz [94,46] ?_;refine AL.weak (st':=(⟨_,[(1,Aqf 0),(13,L x.Peers),(14,I (els x.Peers).length),(15,I k),(17,I k),(19,.o (.ag (Aqi p)))],[.box (Aqi x)]⟩:St)) (X4 [0] Aqc J Aqb (.c J (.c J (.c J (.c J (.c J (.cons Aqb (.nil)))))))) ?_;refine Wz [36,32,136] ?_;refine AL.weak (st':=(⟨_,[(1,Aqf 0),(13,L x.Peers),(14,I (els x.Peers).length),(15,I k),(3,I k),(4,Aqf 1)],[.box (Aqi x),.box (Aqi p)]⟩:St)) (X4 [0,1] Aqc J ( Aqb) (.c J (.c J (.c J (.c J (.c J (.c J (.nil)))))))) ?_;refine Wz [6,107,37] ?_;refine zx (Qj J J (c1) J) J ?_;refine Wz [5,102,166,273,98,140,224,288,213,289,51] ?_
  refine Xb J (fun h4 => ?_) (fun h4 => ?_)
  ·rw[show peersM x=false from dF fun hp=>pin_no1 h4 (hp.2 k p hq)]
   refine Wz [77,103,147,69] ?_
   exact Xl J J (X1 [] Aqc J J J)
  refine AWP.pre (st':=(⟨_,[(1,Aqf 0),(13,L x.Peers),(14,I (els x.Peers).length),(15,I k),(3,I k),(4,Aqf 1)],[.box (Aqi x),.box (Aqi p)]⟩:St)) ?_ (X3 [0,1] Aqb)
  refine Wz [15,3,55,254,254] ?_;refine zx (Qj J J (c2) J) J ?_;refine Wz [5,102,236,255,162,98,236,255,162,51] ?_
  refine Xb J (fun h5 => ?_) (fun h5 => ?_)
  ·rw[show peersM x=false from dF fun hp=>pin_no2 h5 (hp.2 k p hq)]
   refine Wz [54] ?_
   exact Xl J J (X1 [] Aqc J J J)
  refine AWP.pre (st':=(⟨_,[(1,Aqf 0),(13,L x.Peers),(14,I (els x.Peers).length),(15,I k)],[.box (Aqi x)]⟩:St)) ?_ (X3 [0] Aqb)
  refine Wz [123,50,57,18,0,6] ?_
  exact⟨x.Peers.length-(k+1),Aqa,_,⟨k+1,Aqa,Kt hp_A fun p' hp'=>by rw[hq] at hp'; cases hp'; exact pin_yes h4 h5,J⟩,X3 [0] Aqb⟩
 have h3:¬k<x.Peers.length:=by have:=Gqd h; omega
 rw[show peersM x=true from dT ⟨h1,fun i p hi=>hp_A i (by have:=(Gqo.1 hi).1; omega) p hi⟩]
 refine Wz [20,67] ?_
 exact Xl J J (X1 [] Aqc J J J)
theorem Yl {α:Type} [Enc α] {xs:List α} {i:Nat} {x:α} (h:xs[i]? = some x):(els xs)[(i:Int).toNat]? = some (Enc.e x):=by simp[els,h]
theorem lenAt_some {l:List TTrack} {k:Nat} {t:TTrack} (h:l[k]? = some t):lenAt l k=t.Inputs.length:=by simp[lenAt,Gqg,h]
theorem Kp {α:Type} {xs:List α} {i:Nat} (h:i<xs.length):∃ x,xs[i]? = some x:=⟨_,Gqf h⟩
section
variable {m:TMatch} {i j:Nat} {ws:List TWire} {qs:List TPace} {ks:List Int} {p:TPeer} {w:TWire} {q:TPace} {a:Int} {tr:TTrack} (hws:m.Wires[i]? = some ws) (hqs:m.Paces[i]? = some qs) (hks:m.Acks[i]? = some ks)
include hws hqs hks
theorem link_len (h1:ws.length=m.Peers.length) (h2:qs.length=m.Peers.length) (h3:ks.length=m.Peers.length):LinkLen m i:=fun ws' qs' ks' e1 e2 e3=>by
 rw[hws] at e1; rw[hqs] at e2; rw[hks] at e3
 cases e1; cases e2; cases e3
 exact⟨h1,h2,h3⟩
variable (hp:m.Peers[i]? = some p) (hw:ws[j]? = some w) (hq:qs[j]? = some q) (ha:ks[j]? = some a) (ht:p.Tracks[i]? = some tr)
include hp hw hq ha ht
theorem link_spec (h:LinkAt m i j):wireOk w=true∧paceOk q=true∧inR a 0 (els tr.Inputs).length=true:=by
 have h:=h ws qs ks p w q a hws hqs hks hp hw hq ha
 rwa[lenAt_some ht,←Yi tr.Inputs] at h
theorem link_yes (h1:(!wireOk w || !paceOk q)=false) (h2:inR a 0 (els tr.Inputs).length=true):LinkAt m i j:=fun ws' qs' ks' p' w' q' a' e1 e2 e3 e4 e5 e6 e7=>by
 rw[hws] at e1; rw[hqs] at e2; rw[hks] at e3; rw[hp] at e4
 cases e1; cases e2; cases e3; cases e4
 rw[hw] at e5; rw[hq] at e6; rw[ha] at e7
 cases e5; cases e6; cases e7
 simp only[Gql,Gqu] at h1
 rw[Yi] at h2
 exact⟨h1.1,h1.2,by rw[lenAt_some ht]; exact h2⟩
end
theorem I_linksOk (x:TMatch) (hg:Enc.gd x) (hP:PeersP x):Con Tryz.prog 137 [] [ag x] [] (B (linksM x)):=by
 obtain⟨gL,gS,gD,gSc,gP,gW,gPa,gA,gC,gWa,gLi,gAl,gB⟩:=hg
 have hlp:=Yi x.Peers
 have hx:=gP.1
 have hlw:=Yi x.Wires
 have hlq:=Yi x.Paces
 have hla:=Yi x.Acks
 refine Con.of Tryz.func137 J Tryz.ntmps137 J (fun E => ?_)
 refine Wz [21,23,14,2,34,117,158,102,140,176,162,98,140,176,162,51] ?_
 refine Xb J (fun h1 => ?_) (fun h1 => ?_)
 ·simp only[Gqr,decide_eq_true_eq] at h1
  rw[show linksM x=false from dF fun hp=>by obtain⟨⟨a,b,c⟩,_⟩:=hp; omega]
  refine Wz [39] ?_
  exact Xl J J (X1 [] Aqc J J J)
 simp only[Gql,decide_eq_false_iff_not,Classical.not_not] at h1
 obtain⟨⟨l1,l2⟩,l3⟩:=h1
 refine AWP.pre (st':=(⟨_,[(1,Aqf 0),(3,I (els x.Peers).length)],[.box (Aqi x)]⟩:St)) ?_ (X3 [0] Aqb)
 refine Wz [15,11] ?_;refine Xh (fun m st=>∃ i:Nat,i+m=x.Peers.length∧((∀ i',i'<i→LinkLen x i'∧∀ j',j'<x.Peers.length→LinkAt x i' j'))∧st=(⟨_,[(1,Aqf 0),(3,I (els x.Peers).length),(4,I i)],[.box (Aqi x)]⟩:St)) (x.Peers.length) ⟨_,⟨0,Aqa,fun i hi=>absurd hi (Nat.not_lt_zero _),J⟩,X3 [0] Aqb⟩ ?_
 rintro m_A _ ⟨i,hk_A,hp_A,rfl⟩
 refine Wz [43,38] ?_
 refine Xb J (fun h => ?_) (fun h => ?_)
 ·have h3:i<x.Peers.length:=by have:=Gqc h; omega
  obtain⟨ws,hws⟩:=Kp (xs:=x.Wires) (i:=i) Aqa 
  obtain⟨qs,hqs⟩:=Kp (xs:=x.Paces) (i:=i) Aqa 
  obtain⟨ks,hks⟩:=Kp (xs:=x.Acks) (i:=i) Aqa 
  obtain⟨p,hp⟩:=Kp (xs:=x.Peers) (i:=i) Aqa 
  have h4:=(pin_spec (hP.2 i p hp)).1.2.2
  have h5:=hP.1
  obtain⟨tr,ht⟩:=Kp (xs:=p.Tracks) (i:=i) Aqa 
  have gws:=gW.2 ws (Gqm hws)
  have hatW:=Yl hws
  have hatQ:=Yl hqs
  have hatK:=Yl hks
  have hatP:=Yl hp
  have hatT:=Yl ht
  have hl1:=Yi ws
  have hl2:=Yi qs
  have hl3:=Yi ks
  refine Wz [7,34,0,80,117,158,102,166,226,237,213,256,238,98,166,226,237,213,256,238,51] ?_
  refine Xb J (fun h6 => ?_) (fun h6 => ?_)
  ·simp only[Gqr,decide_eq_true_eq] at h6
   rw[show linksM x=false from dF fun hp=>by obtain⟨a,b,c⟩:=(hp.2 i h3).1 ws qs ks hws hqs hks; omega]
   refine Wz [77,103,147,69] ?_
   exact Xl J J (X1 [] Aqc J J J)
  simp only[Gql,decide_eq_false_iff_not,Classical.not_not] at h6
  obtain⟨⟨l4,l5⟩,l6⟩:=h6
  refine AWP.pre (st':=(⟨_,[(1,Aqf 0),(3,I (els x.Peers).length),(4,I i)],[.box (Aqi x)]⟩:St)) ?_ (X3 [0] Aqb)
  refine Wz [15,12,178] ?_;refine Xh (fun m st=>∃ j:Nat,j+m=x.Peers.length∧((∀ j',j'<j→LinkAt x i j'))∧st=(⟨_,[(1,Aqf 0),(3,I (els x.Peers).length),(4,I i),(5,I j)],[.box (Aqi x)]⟩:St)) (x.Peers.length) ⟨_,⟨0,Aqa,fun i hi=>absurd hi (Nat.not_lt_zero _),J⟩,X3 [0] Aqb⟩ ?_
  rintro m_D _ ⟨j,hk_D,hp_D,rfl⟩
  refine Wz [43,38] ?_
  refine Xb J (fun h => ?_) (fun h => ?_)
  ·have h7:j<x.Peers.length:=by have:=Gqc h; omega
   obtain⟨w,hw⟩:=Kp (xs:=ws) (i:=j) Aqa 
   obtain⟨q,hq⟩:=Kp (xs:=qs) (i:=j) Aqa 
   obtain⟨a,ha⟩:=Kp (xs:=ks) (i:=j) Aqa 
   have hatw:=Yl hw
   have hatq:=Yl hq
   have hata:=Yl ha
   have c1:=I_WireOk w (gws.2 w (Gqm hw))
   have c2:=I_PaceOk q
   refine Wz [7,34,0,133,114,46] ?_;refine zx (Qj J J (c1) J) J ?_;refine Wz [5,102,166,226,237] ?_;refine zx (Qt.grdF J J J (.hit (.hit (.hit (.hit (.hit .stop))))) (fun hgrd=>Qa J J J)) J ?_;refine zx (Qt.grdF J J J (.hit (.hit (.hit (.hit (.hit (.hit .stop)))))) (fun hgrd=>Q2 J J J J Aqa Aqe  J)) J ?_;refine zx (Qt.grdF J J J (.hit (.hit (.hit (.hit (.hit (.hit (.hit .stop))))))) (fun hgrd=>Z8 J J J J J)) J ?_;refine zx (Qt.grdF J J J (.hit (.hit (.hit (.hit (.hit (.hit (.hit (.hit .stop)))))))) (fun hgrd=>Qj J J (c2) J)) J ?_;refine zx (Qt.grdF J J J (.hit (.hit (.hit (.hit (.hit (.hit (.hit (.hit (.hit .stop))))))))) (fun hgrd=>Q4 J J J)) J ?_;refine Wz [51] ?_
   refine Xb J (fun h8 => ?_) (fun h8 => ?_)
   ·rw[show linksM x=false from dF fun hl=>by obtain⟨b,c,_⟩:=link_spec hws hqs hks hp hw hq ha ht ((hl.2 i h3).2 j h7); rw[b,c] at h8; exact absurd h8 Aqc]
    refine Wz [77,103,147,141] ?_
    exact Xl J J (X1 [] Aqc J J J)
   refine AWP.pre (st':=(⟨_,[(1,Aqf 0),(3,I (els x.Peers).length),(4,I i),(5,I j)],[.box (Aqi x)]⟩:St)) ?_ (X3 [0] Aqb)
   have c3:=Xo a 0 (els tr.Inputs).length
   cases hr:inR a 0 (els tr.Inputs).length with
   |false =>
    rw[hr] at c3
    rw[show linksM x=false from dF fun hl=>by obtain⟨_,_,b⟩:=link_spec hws hqs hks hp hw hq ha ht ((hl.2 i h3).2 j h7); rw[hr] at b; cases b]
    refine Wz [15,17] ?_;refine Xg u8_46 u8_47 u8_48 J ?_;refine Wz [8,66,29,66,29,8,66,173,29,66,173,29,183] ?_;refine DR.s (Qj J J (c3) J) J J ?_;refine Wz [74,13,24,77,179,141] ?_
    exact Xl J J (X1 [] Aqc J J J)
   |true =>
    rw[hr] at c3
    refine Wz [15,17] ?_;refine Xg u8_46 u8_47 u8_48 J ?_;refine Wz [8,66,29,66,29,8,66,173,29,66,173,29,183] ?_;refine DR.s (Qj J J (c3) J) J J ?_;refine Wz [74,13,81,62] ?_
    exact⟨x.Peers.length-(j+1),Aqa,_,⟨j+1,Aqa,Kt hp_D (link_yes hws hqs hks hp hw hq ha ht h8 hr),J⟩,X3 [0] Aqb⟩
  have h7:¬j<x.Peers.length:=by have:=Gqd h; omega
  refine Wz [218,231] ?_
  exact⟨x.Peers.length-(i+1),Aqa,_,⟨i+1,Aqa,Kt hp_A ⟨link_len hws hqs hks Aqa Aqa Aqa,fun j' hj=>hp_D j' Aqa⟩,J⟩,X3 [0] Aqb⟩
 have h3:¬i<x.Peers.length:=by have:=Gqd h; omega
 rw[show linksM x=true from dT ⟨⟨Aqa,Aqa,Aqa⟩,fun i' hi=>hp_A i' Aqa⟩]
 refine Wz [20,67] ?_
 exact Xl J J (X1 [] Aqc J J J)
section
variable {m:TMatch} {s:TSpectator} {l:TWire}
theorem win_spec (h:watcherIn m s l=true):(wireOk l=true∧worldOk s.World=true)∧s.World.Level=m.Level∧(s.World.Scores.length:Int)=(m.Scripts.length:Int):=by
 simp only[watcherIn,Gqi,decide_eq_true_eq] at h
 exact h
theorem win_no1 (h:(!wireOk l || !worldOk s.World)=true):¬watcherIn m s l=true:=fun hp=>by
 obtain⟨⟨a,b⟩,_⟩:=win_spec hp
 rw[a,b] at h
 exact absurd h Aqc 
theorem win_no2 (h:(!decide (s.World.Level=m.Level) || decide (((els s.World.Scores).length:Int)≠((els m.Scripts).length:Int)))=true):¬watcherIn m s l=true:=fun hp=>by
 obtain⟨_,a,b⟩:=win_spec hp
 rw[Gqb a,Yi,Yi,Gqa (fun q=>q b)] at h
 exact absurd h Aqc 
theorem win_yes (h:(!wireOk l || !worldOk s.World)=false) (h2:(!decide (s.World.Level=m.Level) || decide (((els s.World.Scores).length:Int)≠((els m.Scripts).length:Int)))=false):watcherIn m s l=true:=by
 simp only[Gql,Gqu,decide_eq_false_iff_not,Classical.not_not,decide_eq_true_eq,Yi] at h h2
 simp only[watcherIn,Gqi,decide_eq_true_eq]
 exact⟨h,h2⟩
end
theorem I_watchersOk (x:TMatch) (hg:Enc.gd x):Con Tryz.prog 138 [] [ag x] [] (B (watchersM x)):=by
 obtain⟨gL,gS,gD,gSc,gP,gW,gPa,gA,gC,gWa,gLi,gAl,gB⟩:=hg
 have hlp:=Yi x.Watchers
 have hll:=Yi x.Lines
 have hx:=gWa.1
 refine Con.of Tryz.func138 J Tryz.ntmps138 J (fun E => ?_)
 refine Wz [21,34,14,206,102,140,224,288,213,289,51] ?_
 refine Xb J (fun h1 => ?_) (fun h1 => ?_)
 ·simp only[Gqr,decide_eq_true_eq] at h1
  rw[show watchersM x=false from dF fun hp=>by obtain⟨⟨a,b⟩,_⟩:=hp; omega]
  refine Wz [39] ?_
  exact Xl J J (X1 [] Aqc J J J)
 simp only[Gql,decide_eq_false_iff_not,Classical.not_not] at h1
 obtain⟨l1,l2⟩:=h1
 refine AWP.pre (st':=(⟨_,[(1,Aqf 0)],[.box (Aqi x)]⟩:St)) ?_ (X3 [0] Aqb)
 refine Wz [15,34,117,97] ?_;refine Xh (fun m st=>∃ k:Nat,k+m=x.Watchers.length∧((∀ i,i<k→∀ s l,x.Watchers[i]? = some s→x.Lines[i]? = some l→watcherIn x s l=true))∧st=(⟨_,[(1,Aqf 0),(19,L x.Watchers),(20,I (els x.Watchers).length),(21,I k)],[.box (Aqi x)]⟩:St)) (x.Watchers.length) ⟨_,⟨0,Aqa,fun i hi=>absurd hi (Nat.not_lt_zero _),J⟩,X3 [0] Aqb⟩ ?_
 rintro m_A _ ⟨k,hk_A,hp_A,rfl⟩
 refine Wz [3,38,17] ?_
 refine Xb J (fun h => ?_) (fun h => ?_)
 ·have h3:k<x.Watchers.length:=by have:=Gqc h; omega
  obtain⟨s,hs⟩:=Kp (xs:=x.Watchers) (i:=k) Aqa 
  obtain⟨l,hl⟩:=Kp (xs:=x.Lines) (i:=k) Aqa 
  have hat:=Yl hs
  have hatL:=Yl hl
  have gs:=gWa.2 s (Gqm hs)
  have c1:=I_WireOk l (gLi.2 l (Gqm hl))
  have c2:=I_WorldOk s.World gs.1
  have c3:=I_sameLevel s.World.Level x.Level gs.1.1
  refine Wz [7,10,46,36,32,48,34,0,46] ?_;refine zx (Qj J J (c1) J) J ?_;refine Wz [5,168,212] ?_;refine zx (Qt.grdF J J J (.hit (.hit .stop)) (fun hgrd=>Qj J J (c2) J)) J ?_;refine Wz [104,51] ?_
  refine Xb J (fun h4 => ?_) (fun h4 => ?_)
  ·rw[show watchersM x=false from dF fun hp=>win_no1 h4 (hp.2 k s l hs hl)]
   refine Wz [77,103,147,69] ?_
   exact Xl J J (X1 [] Aqc J J J)
  refine AWP.pre (st':=(⟨_,[(1,Aqf 0),(19,L x.Watchers),(20,I (els x.Watchers).length),(21,I k),(4,Aqf 1)],[.box (Aqi x),.box (Aqi s)]⟩:St)) ?_ (X3 [0,1] Aqb)
  refine Wz [15,3,55,254,254] ?_;refine zx (Qj J J (c3) J) J ?_;refine Wz [5,168,181,209,216,281] ?_;refine zx (Qt.grdF J J J (.hit (.hit (.hit (.hit (.hit .stop))))) (fun hgrd=>Qg J J J J J)) J ?_;refine zx (Qt.grdF J J J (.hit (.hit (.hit (.hit (.hit (.hit .stop)))))) (fun hgrd=>Z3 J J J)) J ?_;refine Wz [238,51] ?_
  refine Xb J (fun h5 => ?_) (fun h5 => ?_)
  ·rw[show watchersM x=false from dF fun hp=>win_no2 h5 (hp.2 k s l hs hl)]
   refine Wz [54] ?_
   exact Xl J J (X1 [] Aqc J J J)
  refine AWP.pre (st':=(⟨_,[(1,Aqf 0),(19,L x.Watchers),(20,I (els x.Watchers).length),(21,I k)],[.box (Aqi x)]⟩:St)) ?_ (X3 [0] Aqb)
  refine Wz [123,50,57,18,0,6] ?_
  exact⟨x.Watchers.length-(k+1),Aqa,_,⟨k+1,Aqa,Kt hp_A fun s' l' hs' hl'=>by rw[hs] at hs'; rw[hl] at hl'; cases hs'; cases hl'; exact win_yes h4 h5,J⟩,X3 [0] Aqb⟩
 have h3:¬k<x.Watchers.length:=by have:=Gqd h; omega
 rw[show watchersM x=true from dT ⟨⟨Aqa,Aqa⟩,fun i s l hi hl=>hp_A i (by have:=(Gqo.1 hi).1; omega) s l hi hl⟩]
 refine Wz [20,67] ?_
 exact Xl J J (X1 [] Aqc J J J)
end
section
open Go.RowKit

section
variable {m:TMatch}
theorem match_I (hH:HeadP m) (hS:1≤m.Scripts.length∧m.Scripts.length≤4) (hA:m.Scripts.all scriptOk=true) (hP:PeersP m):(linksM m&&watchersM m)=matchOk m:=by
 by_cases hl:LinksP m
 ·by_cases hw:WatchersP m
  ·rw[show linksM m=true from dT hl,show watchersM m=true from dT hw,show matchOk m=true from dT ⟨hH,hS,hA,hP,hl,hw⟩]; rfl
  ·rw[show watchersM m=false from dF hw,show matchOk m=false from dF fun ⟨_,_,_,_,_,q⟩=>hw q,Bool.and_false]
 ·rw[show linksM m=false from dF hl,show matchOk m=false from dF fun ⟨_,_,_,_,q,_⟩=>hl q,Bool.false_and]
end
theorem I_MatchOk (x:TMatch) (hg:Enc.gd x):Con Tryz.prog 56 [] [ag x] [] (B (matchOk x)):=by
 have hg0:=hg
 obtain⟨gL,gS,gD,gSc,gP,gW,gPa,gA,gC,gWa,gLi,gAl,gB⟩:=hg
 have hl:=Yi x.Scripts
 have hx:=gSc.1
 have c1:=I_LevelOk x.Level gL
 refine Con.of Tryz.func56 J Tryz.ntmps56 J (fun E => ?_)
 refine Wz [21,191] ?_;refine zx (Qj J J (c1) J) J ?_;refine Wz [5,102] ?_;refine zx (Qt.grdF J J J (.hit (.hit .stop)) (fun hgrd=>Qj J J (Xo x.Seed 0 65535) J)) J ?_;refine Wz [104,98] ?_;refine zx (Qt.grdF J J J (.hit (.hit .stop)) (fun hgrd=>Qj J J (Xo x.Delay 0 5) J)) J ?_;refine Wz [104,51] ?_
 refine Xb J (fun h1 => ?_) (fun h1 => ?_)
 ·rw[show matchOk x=false from dF fun hm=>by obtain⟨⟨a,b,c,_⟩,_⟩:=hm; rw[a,b,c] at h1; exact absurd h1 Aqc]
  refine Wz [39] ?_
  exact Xl J J (X1 [] Aqc J J J)
 refine AWP.pre (st':=(⟨_,[(1,Aqf 0)],[.box (Aqi x)]⟩:St)) ?_ (X3 [0] Aqb)
 refine Wz [15,34] ?_;refine zx (Qj J J (Xo x.Clock 0 1000) J) J ?_;refine Wz [5,102] ?_;refine zx (Qt.grdF J J J (.hit (.hit .stop)) (fun hgrd=>Qj J J (Xo x.Bad 0 1000000) J)) J ?_;refine Wz [104,51] ?_
 refine Xb J (fun h2 => ?_) (fun h2 => ?_)
 ·rw[show matchOk x=false from dF fun hm=>by obtain⟨⟨_,_,_,a,b⟩,_⟩:=hm; rw[a,b] at h2; exact absurd h2 Aqc]
  refine Wz [39] ?_
  exact Xl J J (X1 [] Aqc J J J)
 refine AWP.pre (st':=(⟨_,[(1,Aqf 0)],[.box (Aqi x)]⟩:St)) ?_ (X3 [0] Aqb)
 simp only[Gql,Gqu] at h1 h2
 have hH:HeadP x:=⟨h1.1.1,h1.1.2,h1.2,h2.1,h2.2⟩
 refine Wz [15,34,14,153,102,140,215,51] ?_
 refine Xb J (fun h3 => ?_) (fun h3 => ?_)
 ·simp only[Gqr,decide_eq_true_eq] at h3
  rw[show matchOk x=false from dF fun hm=>by obtain⟨_,⟨a,b⟩,_⟩:=hm; omega]
  refine Wz [39] ?_
  exact Xl J J (X1 [] Aqc J J J)
 simp only[Gql,decide_eq_false_iff_not] at h3
 refine AWP.pre (st':=(⟨_,[(1,Aqf 0)],[.box (Aqi x)]⟩:St)) ?_ (X3 [0] Aqb)
 refine Wz [15,34,117,97] ?_;refine Xh (fun m st=>∃ k:Nat,k+m=x.Scripts.length∧((x.Scripts.take k).all scriptOk=true)∧st=(⟨_,[(1,Aqf 0),(42,L x.Scripts),(43,I (els x.Scripts).length),(44,I k)],[.box (Aqi x)]⟩:St)) (x.Scripts.length) ⟨_,⟨0,Aqa,Aqd,J⟩,X3 [0] Aqb⟩ ?_
 rintro m_A _ ⟨k,hk_A,hp_A,rfl⟩
 refine Wz [3,38,17] ?_
 refine Xb J (fun h => ?_) (fun h => ?_)
 ·have h5:k<x.Scripts.length:=by have:=Gqc h; omega
  have hat:=Yg h5
  have hc:=I_scriptOk x.Scripts[k] (gSc.2 _ (Gqe h5))
  cases ho:scriptOk x.Scripts[k] with
  |false =>
   rw[ho] at hc
   rw[show matchOk x=false from dF fun hm=>by have:=hm.2.2.1; rw[X9 h5 ho] at this; cases this]
   refine Wz [7,3,80,40] ?_;refine zx (Qj J J (hc) J) J ?_;refine Wz [5,24,54] ?_
   exact Xl J J (X1 [] Aqc J J J)
  |true =>
   rw[ho] at hc
   refine Wz [7,3,80,40] ?_;refine zx (Qj J J (hc) J) J ?_;refine Wz [5,81,123,50,57,18,0,6] ?_
   exact⟨x.Scripts.length-(k+1),Aqa,_,⟨k+1,Aqa,X8 hp_A h5 ho,J⟩,X3 [0] Aqb⟩
 have h5:¬k<x.Scripts.length:=by have:=Gqd h; omega
 have hA:=X7 hp_A Aqa 
 have cp:=I_peersOk x hg0
 have cw:=I_watchersOk x hg0
 refine AWP.pre (st':=(⟨_,[(1,Aqf 0)],[.box (Aqi x)]⟩:St)) ?_ (X3 [0] Aqb)
 by_cases hP:PeersP x
 ·have cl:=I_linksOk x hg0 hP
  rw[show peersM x=true from dT hP] at cp
  rw[←match_I hH Aqa hA hP]
  refine Wz [20,90] ?_;refine zx (Qj J J (cp) J) J ?_;refine Wz [70,37,1] ?_;refine zx (Qj J J (cl) J) J ?_;refine Wz [60,0] ?_;refine zx (Qt.grdT J J J .stop (fun hgrd=>Qu J J J J J J)) J ?_;refine zx (Qt.grdT J J J (.hit .stop) (fun hgrd=>Qj J J (cw) J)) J ?_;refine Wz [25,53] ?_
  exact Xl J J (X1 [] Aqc J J J)
 ·rw[show peersM x=false from dF hP] at cp
  rw[show matchOk x=false from dF fun hm=>hP hm.2.2.2.1]
  refine Wz [20,90] ?_;refine zx (Qj J J (cp) J) J ?_;refine Wz [0,47,22,0,47,22,53] ?_
  exact Xl J J (X1 [] Aqc J J J)
end
end Go.Proofs.YtfklmiijhcajdaaGreat
