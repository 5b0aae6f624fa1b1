/-
  Rules, data and contracts of functions: part 25 of the proof.
  Conditions: those that each theorem names.
-/
import Derived.Test.YtoecjaohdnoenaaGreatDDJoinRowk23
set_option linter.unusedSimpArgs false
set_option linter.unusedVariables false
set_option maxRecDepth 8000
set_option maxHeartbeats 8000000
namespace Go.Proofs.YtoecjaohdnoenaaGreat
section
open Go.RowKit

def V1.tosk (q:Nat):V1→V1
 | .sb p n k=>match Nat.beq p q with
  |true=>match n with
   |0 => .ref q
   |_ => .un
  |false=>(V1.sb p n k).kill [q]
 |x=>x.kill [q]
theorem Wk.sbnil {st:St} {q:Nat} (k:Nat) (hq:st.objs[q]? = some (.box [])) (hk:Nat.blt 0 k=true):Wk st ⟨st.n,st.tmps.map fun t=>(t.1,t.2.mapk (V1.tosk q)),(st.objs.map (Ob.mapk (V1.tosk q))).set q (.row k [])⟩:=by
 intro w H F a h1
 have hb:=h1.obs q
 rw[Yq hq] at hb
 obtain⟨g,t,vs,e1,e2,e3⟩:=hb
 have hsay:=h1.ok.says q
 rw[e1] at hsay
 have hg:w.heap[g]? = some (.cells vs.toArray t (0,0)):=hsay
 have hqlt:=Yr hq
 have hkp:0<k:=Gqw hk
 have hO:OW w (.sl k []) (.slice (some ⟨g,0,none⟩) 0 0) [g]:=OW.sl [] g 0 k 0 t vs.toArray (0,0) (fun _ _=>undef) [] hg (.inl rfl) (Gqj _) (Gxh _) (by simp) hkp (fun e he=>by simp at he) rfl (fun f hf=>by simp at hf) (fun i j hi=>by simp at hi) (fun i j e t fs f h=>by simp at h)
 have hkeep:Keeps w w [g]:=⟨rfl,rfl,rfl,Gqj _,fun _ _ _=>rfl⟩
 obtain⟨hok,htn⟩:=h1.ok.turn (p:=q) (fp := [g]) (by rw[e1]; rfl) hkeep (.ow (.sl k []) (.slice (some ⟨g,0,none⟩) 0 0) [g]) hO (by simp[Pc.fp]) trivial (fun b hb => .inl hb)
 have hone:∀ x v,R1 w H F x v→R1 w (H.put q (.ow (.sl k []) (.slice (some ⟨g,0,none⟩) 0 0) [g])) F (V1.tosk q x) v:=fun x v hx=>by
  cases x with
  | sb p n k' =>
   simp only[V1.tosk]
   split
   ·rename_i hp
    have hpq:=Gxb hp
    subst hpq
    split
    ·obtain⟨g',t',vs',k1,k2,k3,k4⟩:=hx
     rw[e1] at k1
     simp only[Pc.box.injEq] at k1
     obtain⟨rfl,rfl,rfl⟩:=k1
     rw[k4]
     exact⟨.sl k [],[g],by rw[Hs.put_self]⟩
    ·trivial
   ·exact R1.killed h1.ok htn hx
  |_=>exact R1.killed h1.ok htn hx
 refine⟨_,h1.mapk (V1.tosk q) hone hok ((st.objs.map (Ob.mapk (V1.tosk q))).set q (.row k [])) (fun p => ?_),fun p b hb => ?_,htn.gh⟩
 ·by_cases hpq:p=q
  ·subst hpq
   rw[Yq (x := .row k []) (by simp[hqlt])]
   exact⟨_,_,Hs.put_self _ _ _⟩
  ·rw[Gqf,Gq8 (Ne.symm hpq),Gqi]
   have h2:=h1.obs p
   rw[Gqf] at h2
   have h3:=Hs.put_ne H (.ow (.sl k []) (.slice (some ⟨g,0,none⟩) 0 0) [g]) hpq
   cases ho:st.objs[p]? with
   |none=>rw[ho] at h2; exact h3.trans h2
   |some ob=>rw[ho] at h2; exact RB.mapk hone h3 h2
 ·by_cases hpq:p=q
  ·subst hpq
   rw[Hs.put_self] at hb
   exact⟨p,by rw[e1]; exact hb⟩
  ·exact⟨p,by rw[←Hs.put_ne H _ hpq]; exact hb⟩
theorem S_l08Copy (x:TMatch) (h:MatchIn x):Con Tryz.prog 121 [] [ag x] (mR x []) (.o (.ag (mC x 0))):=by
 obtain⟨gL,_,_,gS,gP,gW,gQ,gA,_,gV,gK,gB,_⟩:=h.gd
 have hle:=h.le
 have c1:=S_copyLevel x.Level gL (Yv hle.L).1
 obtain⟨lS,wS⟩:=rows_in hle.S
 obtain⟨lA,wA⟩:=rows_in hle.A
 obtain⟨lP,wP⟩:=Yv hle.P
 obtain⟨lW,wW⟩:=Yv hle.W
 obtain⟨lQ,wQ⟩:=Yv hle.Q
 obtain⟨lV,wV⟩:=Yv hle.V
 obtain⟨lK,wK⟩:=Yv hle.K
 obtain⟨lB,wB⟩:=Yv hle.B
 have eS:=Yf x.Scripts
 have eA:=Yf x.Acks
 have eP:=Yf x.Peers
 have eW:=Yf x.Wires
 have eQ:=Yf x.Paces
 have eV:=Yf x.Watchers
 have eK:=Yf x.Lines
 have eB:=Yf x.Alarms
 have h00:([]:List (List T)).length=0:=rfl
 refine Con.of Tryz.func121 J Tryz.ntmps121 J (fun E => ?_)
 repeat (first | refine Qd ?_ | refine Qh ?_ | refine Qk ?_ | refine Qz ?_)
 refine Wz [75,285,40] ?_;refine AL.weak (st':=(⟨209,[(1,.o (.c (.ptr 0 0))),(2,.o (.c (.ptr 1 0)))],[.box (mD x),.box zM]⟩:St)) (Xz [0,1] (by decide) J ((by kernel_rfl)) (.c J (.c J (.nil)))) ?_;refine Wz [4] ?_
 repeat (first | refine Qd ?_ | refine Qh ?_ | refine Qk ?_ | refine Qz ?_)
 refine AWP.pre (st':=(⟨209,[(1,.o (.c (.ptr 0 0))),(2,.o (.c (.ptr 1 0)))],[.box (mD x),.box zM]⟩:St)) ?_ (Xz [0,1] (by decide) J ((by kernel_rfl)) (.c J (.c J (.nil))))
 refine Xe [[],[0],[0,1],[],[3],[],[5],[],[7],[],[9],(u9 11),[],(u9 13)] [[],[14],[14,15],[],[17],[],[19],[],[21],[],[23],[14,15,16,17,18,19,20,21,22,23,24],[],[3,14,15,16,17,18,19,20,21,22,23,24,25]] [[3,17,18,19,20,21,22,23,24],[3,17,18,19,20,21,22,23,24],[3,17,18,19,20,21,22,23,24],[3,14,15,16,19,20,21,22,23,24],[3,14,15,16,19,20,21,22,23,24],[3,14,15,16,17,18,21,22,23,24],[3,14,15,16,17,18,21,22,23,24],[3,14,15,16,17,18,19,20,23,24],[3,14,15,16,17,18,19,20,23,24],[3,14,15,16,17,18,19,20,21,22],[3,14,15,16,17,18,19,20,21,22],[3],[14,15,16,17,18,19,20,21,22,23,24,25],[]] J ?_;refine Wz [191,197] ?_;refine DR.s (Zm J J (c1) J J J) J J ?_;refine Wz [13,13,13,13] ?_;refine DR.s (x := .o (.ag (mX x (.ref 2) nv nv nv nv nv nv nv nv))) (Zk J J J J (by kernel_rfl)) J J ?_;refine Wz [216,12] ?_;refine AL.weak (st':=(⟨209,[(1,.o (.c (.ptr 0 0))),(2,.o (.c (.ptr 1 0))),(3,.o (.c (.ptr 2 0))),(25,.o (.ag (mX x (.ref 3) nv nv nv nv nv nv nv nv)))],[.box (mD x),.box zM,.box zM,.row 1 (els x.Level.Rows)]⟩:St)) (Xz [0,1,3,2] (by decide) J ((by kernel_rfl)) (.c J (.c J (.c J (.c J (.nil)))))) ?_;refine Qy J J J J J J J J J ?_;refine AL.weak (st':=(⟨209,[(1,.o (.c (.ptr 0 0))),(2,.o (.c (.ptr 1 0))),(3,.o (.c (.ptr 2 0)))],[.box (mD x),.box zM,.box (mX x (.ref 3) nv nv nv nv nv nv nv nv),.row 1 (els x.Level.Rows)]⟩:St)) (Xz [0,1,2,3] (by decide) J ((by kernel_rfl)) (.c J (.c J (.c J (.nil))))) ?_;refine Wz [4,87,44] ?_
 refine AWP.pre ?_ (Wk.nilbox (p:=2) (i:=3) 1 J J)
 refine Xf (fun m st=>∃ k:Nat,k+m=x.Scripts.length∧(True)∧st=(⟨209,[(1,.o (.c (.ptr 0 0))),(2,.o (.c (.ptr 1 0))),(3,.o (.c (.ptr 2 0))),(4,I k)],[.box (mD x),.box zM,.box (mX x (.ref 3) (.ref 4) nv nv nv nv nv nv nv),.row 1 (els x.Level.Rows),.row 1 (els (x.Scripts.take k))]⟩:St)) (x.Scripts.length) ⟨_,⟨0,by omega,trivial,J⟩,Xy [0,1,2,3,4] (by kernel_rfl)⟩ ?_
 rintro m_A _ ⟨k,hk_A,hp_A,rfl⟩
 have hl2:(els (x.Scripts.take k)).length=k:=by rw[Yf]; simp; omega
 by_cases h3:k<x.Scripts.length
 ·have f3:decide ((k:Int)<((els x.Scripts).length:Int))=true:=Gqb (by omega)
  have hat:=Yc h3
  have hm:=Gqd h3
  have hsn:=Yh h3
  generalize x.Scripts[k]=u at hat hm hsn
  have hrk:=wS u hm
  have hlk:=Yf u
  refine Wz [69,67,73] ?_
  refine AWP.pre (st':=(⟨209,[(1,.o (.c (.ptr 0 0))),(2,.o (.c (.ptr 1 0))),(3,.o (.c (.ptr 2 0))),(4,I k)],[.box (mD x),.box zM,.box (mX x (.ref 3) (.ref 4) nv nv nv nv nv nv nv),.row 1 (els x.Level.Rows),.row 1 (els (x.Scripts.take k))]⟩:St)) ?_ (Xz [0,1,2,3,4] (by decide) J ((by kernel_rfl)) (.c J (.c J (.c J (.c J (.nil))))))
  cases u with
  |nil =>
   refine Xe u8_16 u8_19 u8_20 J ?_;refine Wz [13,185,13,50,21,246,146,12] ?_;refine AL.weak (Wk.sbnil (q:=5) 1 J J) ?_;refine Wz [125,140,93] ?_
   exact⟨x.Scripts.length-(k+1),by omega,_,⟨k+1,by omega,trivial,J⟩,(by rw[hsn]; exact Xy [0,1,2,3,4] (by kernel_rfl))⟩
  |cons a rs =>
   have hpos:0<(els (a::rs)).length:=by rw[Yf]; simp
   refine Xe u8_16 u8_19 u8_20 J ?_;refine Wz [13,185,13,50,21] ?_;refine DR.s (q_appz J J J J J J (Yg _) (Ye _) hpos (by omega) (by omega)) J J ?_;refine Wz [146,12,125,140,93] ?_
   exact⟨x.Scripts.length-(k+1),by omega,_,⟨k+1,by omega,trivial,J⟩,(by rw[hsn]; exact Xy [0,1,2,3,4] (by kernel_rfl))⟩
 have f3:decide ((k:Int)<((els x.Scripts).length:Int))=false:=Gqa (by omega)
 have hk:x.Scripts.take k=x.Scripts:=Gqh (by omega)
 rw[hk]
 clear hl2 h3 hk
 refine Wz [69,67,32,16,87,44] ?_
 refine AWP.pre ?_ (Wk.nilbox (p:=2) (i:=4) 23 J J)
 refine Xf (fun m st=>∃ k:Nat,k+m=x.Peers.length∧(True)∧st=(⟨209,[(1,.o (.c (.ptr 0 0))),(2,.o (.c (.ptr 1 0))),(3,.o (.c (.ptr 2 0))),(5,I k)],[.box (mD x),.box zM,.box (mX x (.ref 3) (.ref 4) (.ref 5) nv nv nv nv nv nv),.row 1 (els x.Level.Rows),.row 1 (els x.Scripts),.row 23 (els (x.Peers.take k))]⟩:St)) (x.Peers.length) ⟨_,⟨0,by omega,trivial,J⟩,Xy [0,1,2,3,4,5] (by kernel_rfl)⟩ ?_
 rintro m_B _ ⟨k,hk_B,hp_B,rfl⟩
 have hl2:(els (x.Peers.take k)).length=k:=by rw[Yf]; simp; omega
 by_cases h3:k<x.Peers.length
 ·have f3:decide ((k:Int)<((els x.Peers).length:Int))=true:=Gqb (by omega)
  have hat:=Yc h3
  have hm:=Gqd h3
  have hsn:=Yh h3
  generalize x.Peers[k]=u at hat hm hsn
  have cP:=S_l04Copy u (peer_in2 (gP.2 u hm) (wP u hm))
  refine Wz [69,67,73] ?_
  refine AWP.pre (st':=(⟨209,[(1,.o (.c (.ptr 0 0))),(2,.o (.c (.ptr 1 0))),(3,.o (.c (.ptr 2 0))),(5,I k)],[.box (mD x),.box zM,.box (mX x (.ref 3) (.ref 4) (.ref 5) nv nv nv nv nv nv),.row 1 (els x.Level.Rows),.row 1 (els x.Scripts),.row 23 (els (x.Peers.take k))]⟩:St)) ?_ (Xz [0,1,2,3,4,5] (by decide) J ((by kernel_rfl)) (.c J (.c J (.c J (.c J (.nil))))))
  refine Xe u8_21 [[],[52],[],[54],[],[54,55,56],[54,55,56,57],[54,55,56,57,58],[54,55,56,57,58,59],[52,53,54,55,56,57,58,59,60],[52,53,54,55,56,57,58,59,60,61],[52,53,54,55,56,57,58,59,60,61,62]] [[54,55,56,57,58,59,60],[54,55,56,57,58,59,60],[52,53,56],[52,53,56],[52,53,54,55],[52,53],[52,53],[52,53],[52,53],[],[],[]] J ?_;refine Wz [13,13,50,186] ?_;refine DR.s (Zm J J (cP) J J J) J J ?_;refine Wz [146,12] ?_;refine AL.weak (st':=(⟨209,[(1,.o (.c (.ptr 0 0))),(2,.o (.c (.ptr 1 0))),(3,.o (.c (.ptr 2 0))),(5,I k),(53,.o (.c (.ref 5))),(60,.o (.c (.sb 16 1 23)))],[.box (mD x),.box zM,.box (mX x (.ref 3) (.ref 4) (.ref 5) nv nv nv nv nv nv),.row 1 (els x.Level.Rows),.row 1 (els x.Scripts),.row 23 (els (x.Peers.take k)),.row 1 (els u.Tracks),.row 1 (els u.Base.Level.Rows),.row 1 (els u.Base.Scores),.row 9 (els u.Base.Bodies),.row 1 (els u.Now.Level.Rows),.row 1 (els u.Now.Scores),.row 9 (els u.Now.Bodies),.row 1 (els u.Used),.row 2 (els u.Saves),.row 1 (els u.Sums),.box (pC u 6 7 8 9 10 11 12 13 14 15)]⟩:St)) (Xz [0,1,2,3,4,5,6,7,8,9,10,11,12,13,14,15,16] (by decide) J ((by kernel_rfl)) (.c J (.c J (.c J (.c J (.c J (.c J (.nil)))))))) ?_;refine Xr J J J J J J J J J J J J J J (by omega) (by omega) ?_;refine AL.weak (st':=(⟨209,[(1,.o (.c (.ptr 0 0))),(2,.o (.c (.ptr 1 0))),(3,.o (.c (.ptr 2 0))),(5,I k),(61,.o (.c (.ref 5)))],[.box (mD x),.box zM,.box (mX x (.ref 3) (.ref 4) .un nv nv nv nv nv nv),.row 1 (els x.Level.Rows),.row 1 (els x.Scripts),.row 23 (els (x.Peers.take k) ++ [Enc.e u])]⟩:St)) (Xz [0,1,2,3,4,5] (by decide) J ((by kernel_rfl)) (.c J (.c J (.c J (.c J (.c J (.nil))))))) ?_;refine Wz [140,93] ?_
  exact⟨x.Peers.length-(k+1),by omega,_,⟨k+1,by omega,trivial,J⟩,(by rw[hsn]; exact Xy [0,1,2,3,4,5] (by kernel_rfl))⟩
 have f3:decide ((k:Int)<((els x.Peers).length:Int))=false:=Gqa (by omega)
 have hk:x.Peers.take k=x.Peers:=Gqh (by omega)
 rw[hk]
 clear hl2 h3 hk
 refine Wz [69,67,32,16,87,44] ?_
 refine AWP.pre ?_ (Wk.nilbox (p:=2) (i:=5) 1 J J)
 refine Xf (fun m st=>∃ k:Nat,k+m=x.Wires.length∧(True)∧st=(⟨209,[(1,.o (.c (.ptr 0 0))),(2,.o (.c (.ptr 1 0))),(3,.o (.c (.ptr 2 0))),(6,I k)],[.box (mD x),.box zM,.box (mX x (.ref 3) (.ref 4) (.ref 5) (.ref 6) nv nv nv nv nv),.row 1 (els x.Level.Rows),.row 1 (els x.Scripts),.row 23 (els x.Peers),.row 1 (els (x.Wires.take k))]⟩:St)) (x.Wires.length) ⟨_,⟨0,by omega,trivial,J⟩,Xy [0,1,2,3,4,5,6] (by kernel_rfl)⟩ ?_
 rintro m_C _ ⟨k,hk_C,hp_C,rfl⟩
 have hl2:(els (x.Wires.take k)).length=k:=by rw[Yf]; simp; omega
 by_cases h3:k<x.Wires.length
 ·have f3:decide ((k:Int)<((els x.Wires).length:Int))=true:=Gqb (by omega)
  have hat:=Yc h3
  have hm:=Gqd h3
  have hsn:=Yh h3
  generalize x.Wires[k]=u at hat hm hsn
  obtain⟨lu,wu⟩:=Yv (wW u hm)
  have eu:=Yf u
  refine Wz [69,67,73,1,159,130] ?_;refine Xf (fun m st=>∃ j:Nat,j+m=u.length∧(True)∧st=(⟨209,[(1,.o (.c (.ptr 0 0))),(2,.o (.c (.ptr 1 0))),(3,.o (.c (.ptr 2 0))),(6,I k),(7,.o (.c (.ref 7))),(8,I j)],[.box (mD x),.box zM,.box (mX x (.ref 3) (.ref 4) (.ref 5) (.ref 6) nv nv nv nv nv),.row 1 (els x.Level.Rows),.row 1 (els x.Scripts),.row 23 (els x.Peers),.row 1 (els (x.Wires.take k)),.row 10 (els (u.take j))]⟩:St)) (u.length) ⟨_,⟨0,by omega,trivial,J⟩,Xy [0,1,2,3,4,5,6,7] (by kernel_rfl)⟩ ?_
  rintro m_J _ ⟨j,hk_J,hp_J,rfl⟩
  have hl4:(els (u.take j)).length=j:=by rw[Yf]; simp; omega
  by_cases h5:j<u.length
  ·have f5:decide ((j:Int)<((els u).length:Int))=true:=Gqb (by omega)
   have hat2:=Yc h5
   have cw:=S_l05Copy u[j] (wu _ (Gqd h5))
   have hsn2:=Yh h5
   generalize u[j]=v at hat2 cw hsn2
   refine Wz [69,18,0,92,14,73,106,18,0,148,117,37] ?_;refine M1 (Zm J J (cw) J J J) J J ?_;refine Wz [136,125,76] ?_
   exact⟨u.length-(j+1),by omega,_,⟨j+1,by omega,trivial,J⟩,(by rw[hsn2]; exact Xy [0,1,2,3,4,5,6,7] (by kernel_rfl))⟩
  have f5:decide ((j:Int)<((els u).length:Int))=false:=Gqa (by omega)
  have hk2:u.take j=u:=Gqh (by omega)
  rw[hk2]
  clear hl4 h5 hk2
  refine Wz [69,18,0,92,14,32,16,75,18,0,136,125,140,93] ?_
  exact⟨x.Wires.length-(k+1),by omega,_,⟨k+1,by omega,trivial,J⟩,(by rw[hsn]; exact Xy [0,1,2,3,4,5,6] (by kernel_rfl))⟩
 have f3:decide ((k:Int)<((els x.Wires).length:Int))=false:=Gqa (by omega)
 have hk:x.Wires.take k=x.Wires:=Gqh (by omega)
 rw[hk]
 clear hl2 h3 hk
 refine Wz [69,67,32,16,87,44] ?_
 refine AWP.pre ?_ (Wk.nilbox (p:=2) (i:=6) 1 J J)
 refine Xf (fun m st=>∃ k:Nat,k+m=x.Paces.length∧(True)∧st=(⟨209,[(1,.o (.c (.ptr 0 0))),(2,.o (.c (.ptr 1 0))),(3,.o (.c (.ptr 2 0))),(9,I k)],[.box (mD x),.box zM,.box (mX x (.ref 3) (.ref 4) (.ref 5) (.ref 6) (.ref 7) nv nv nv nv),.row 1 (els x.Level.Rows),.row 1 (els x.Scripts),.row 23 (els x.Peers),.row 1 (els x.Wires),.row 1 (els (x.Paces.take k))]⟩:St)) (x.Paces.length) ⟨_,⟨0,by omega,trivial,J⟩,Xy [0,1,2,3,4,5,6,7] (by kernel_rfl)⟩ ?_
 rintro m_D _ ⟨k,hk_D,hp_D,rfl⟩
 have hl2:(els (x.Paces.take k)).length=k:=by rw[Yf]; simp; omega
 by_cases h3:k<x.Paces.length
 ·have f3:decide ((k:Int)<((els x.Paces).length:Int))=true:=Gqb (by omega)
  have hat:=Yc h3
  have hm:=Gqd h3
  have hsn:=Yh h3
  generalize x.Paces[k]=u at hat hm hsn
  have hrk:=(Yv (wQ u hm)).1
  have hlk:=Yf u
  refine Wz [69,67,73] ?_
  refine AWP.pre (st':=(⟨209,[(1,.o (.c (.ptr 0 0))),(2,.o (.c (.ptr 1 0))),(3,.o (.c (.ptr 2 0))),(9,I k)],[.box (mD x),.box zM,.box (mX x (.ref 3) (.ref 4) (.ref 5) (.ref 6) (.ref 7) nv nv nv nv),.row 1 (els x.Level.Rows),.row 1 (els x.Scripts),.row 23 (els x.Peers),.row 1 (els x.Wires),.row 1 (els (x.Paces.take k))]⟩:St)) ?_ (Xz [0,1,2,3,4,5,6,7] (by decide) J ((by kernel_rfl)) (.c J (.c J (.c J (.c J (.nil))))))
  cases u with
  |nil =>
   refine Xe u8_16 u8_22 u8_23 J ?_;refine Wz [13,185,13,50,21,246,146,12] ?_;refine AL.weak (Wk.sbnil (q:=8) 5 J J) ?_;refine Wz [125,140,93] ?_
   exact⟨x.Paces.length-(k+1),by omega,_,⟨k+1,by omega,trivial,J⟩,(by rw[hsn]; exact Xy [0,1,2,3,4,5,6,7] (by kernel_rfl))⟩
  |cons a rs =>
   have hpos:0<(els (a::rs)).length:=by rw[Yf]; simp
   refine Xe u8_16 u8_22 u8_23 J ?_;refine Wz [13,185,13,50,21] ?_;refine DR.s (q_appz J J J J J J (Yg _) (Ye _) hpos (by omega) (by omega)) J J ?_;refine Wz [146,12,125,140,93] ?_
   exact⟨x.Paces.length-(k+1),by omega,_,⟨k+1,by omega,trivial,J⟩,(by rw[hsn]; exact Xy [0,1,2,3,4,5,6,7] (by kernel_rfl))⟩
 have f3:decide ((k:Int)<((els x.Paces).length:Int))=false:=Gqa (by omega)
 have hk:x.Paces.take k=x.Paces:=Gqh (by omega)
 rw[hk]
 clear hl2 h3 hk
 refine Wz [69,67,32,16,87,44] ?_
 refine AWP.pre ?_ (Wk.nilbox (p:=2) (i:=7) 1 J J)
 refine Xf (fun m st=>∃ k:Nat,k+m=x.Acks.length∧(True)∧st=(⟨209,[(1,.o (.c (.ptr 0 0))),(2,.o (.c (.ptr 1 0))),(3,.o (.c (.ptr 2 0))),(10,I k)],[.box (mD x),.box zM,.box (mX x (.ref 3) (.ref 4) (.ref 5) (.ref 6) (.ref 7) (.ref 8) nv nv nv),.row 1 (els x.Level.Rows),.row 1 (els x.Scripts),.row 23 (els x.Peers),.row 1 (els x.Wires),.row 1 (els x.Paces),.row 1 (els (x.Acks.take k))]⟩:St)) (x.Acks.length) ⟨_,⟨0,by omega,trivial,J⟩,Xy [0,1,2,3,4,5,6,7,8] (by kernel_rfl)⟩ ?_
 rintro m_G _ ⟨k,hk_G,hp_G,rfl⟩
 have hl2:(els (x.Acks.take k)).length=k:=by rw[Yf]; simp; omega
 by_cases h3:k<x.Acks.length
 ·have f3:decide ((k:Int)<((els x.Acks).length:Int))=true:=Gqb (by omega)
  have hat:=Yc h3
  have hm:=Gqd h3
  have hsn:=Yh h3
  generalize x.Acks[k]=u at hat hm hsn
  have hrk:=wA u hm
  have hlk:=Yf u
  refine Wz [69,67,73] ?_
  refine AWP.pre (st':=(⟨209,[(1,.o (.c (.ptr 0 0))),(2,.o (.c (.ptr 1 0))),(3,.o (.c (.ptr 2 0))),(10,I k)],[.box (mD x),.box zM,.box (mX x (.ref 3) (.ref 4) (.ref 5) (.ref 6) (.ref 7) (.ref 8) nv nv nv),.row 1 (els x.Level.Rows),.row 1 (els x.Scripts),.row 23 (els x.Peers),.row 1 (els x.Wires),.row 1 (els x.Paces),.row 1 (els (x.Acks.take k))]⟩:St)) ?_ (Xz [0,1,2,3,4,5,6,7,8] (by decide) J ((by kernel_rfl)) (.c J (.c J (.c J (.c J (.nil))))))
  cases u with
  |nil =>
   refine Xe u8_16 u8_24 u8_25 J ?_;refine Wz [13,185,13,50,21,246,146,12] ?_;refine AL.weak (Wk.sbnil (q:=9) 1 J J) ?_;refine Wz [125,140,93] ?_
   exact⟨x.Acks.length-(k+1),by omega,_,⟨k+1,by omega,trivial,J⟩,(by rw[hsn]; exact Xy [0,1,2,3,4,5,6,7,8] (by kernel_rfl))⟩
  |cons a rs =>
   have hpos:0<(els (a::rs)).length:=by rw[Yf]; simp
   refine Xe u8_16 u8_24 u8_25 J ?_;refine Wz [13,185,13,50,21] ?_;refine DR.s (q_appz J J J J J J (Yg _) (Ye _) hpos (by omega) (by omega)) J J ?_;refine Wz [146,12,125,140,93] ?_
   exact⟨x.Acks.length-(k+1),by omega,_,⟨k+1,by omega,trivial,J⟩,(by rw[hsn]; exact Xy [0,1,2,3,4,5,6,7,8] (by kernel_rfl))⟩
 have f3:decide ((k:Int)<((els x.Acks).length:Int))=false:=Gqa (by omega)
 have hk:x.Acks.take k=x.Acks:=Gqh (by omega)
 rw[hk]
 clear hl2 h3 hk
 refine Wz [69,67,32,16,87,44] ?_
 refine AWP.pre ?_ (Wk.nilbox (p:=2) (i:=9) 6 J J)
 refine Xf (fun m st=>∃ k:Nat,k+m=x.Watchers.length∧(True)∧st=(⟨209,[(1,.o (.c (.ptr 0 0))),(2,.o (.c (.ptr 1 0))),(3,.o (.c (.ptr 2 0))),(11,I k)],[.box (mD x),.box zM,.box (mX x (.ref 3) (.ref 4) (.ref 5) (.ref 6) (.ref 7) (.ref 8) (.ref 9) nv nv),.row 1 (els x.Level.Rows),.row 1 (els x.Scripts),.row 23 (els x.Peers),.row 1 (els x.Wires),.row 1 (els x.Paces),.row 1 (els x.Acks),.row 6 (els (x.Watchers.take k))]⟩:St)) (x.Watchers.length) ⟨_,⟨0,by omega,trivial,J⟩,Xy [0,1,2,3,4,5,6,7,8,9] (by kernel_rfl)⟩ ?_
 rintro m_K _ ⟨k,hk_K,hp_K,rfl⟩
 have hl2:(els (x.Watchers.take k)).length=k:=by rw[Yf]; simp; omega
 by_cases h3:k<x.Watchers.length
 ·have f3:decide ((k:Int)<((els x.Watchers).length:Int))=true:=Gqb (by omega)
  have hat:=Yc h3
  have hm:=Gqd h3
  have hsn:=Yh h3
  generalize x.Watchers[k]=u at hat hm hsn
  have cV:=S_copyWorld u.World (gV.2 u hm).1 (sp_in (wV u hm)).1 (sp_in (wV u hm)).2.1 (sp_in (wV u hm)).2.2
  refine Wz [69,67,73] ?_
  refine AWP.pre (st':=(⟨209,[(1,.o (.c (.ptr 0 0))),(2,.o (.c (.ptr 1 0))),(3,.o (.c (.ptr 2 0))),(11,I k)],[.box (mD x),.box zM,.box (mX x (.ref 3) (.ref 4) (.ref 5) (.ref 6) (.ref 7) (.ref 8) (.ref 9) nv nv),.row 1 (els x.Level.Rows),.row 1 (els x.Scripts),.row 23 (els x.Peers),.row 1 (els x.Wires),.row 1 (els x.Paces),.row 1 (els x.Acks),.row 6 (els (x.Watchers.take k))]⟩:St)) ?_ (Xz [0,1,2,3,4,5,6,7,8,9] (by decide) J ((by kernel_rfl)) (.c J (.c J (.c J (.c J (.nil))))))
  refine Xe [[],[0],[],[2],[],[2,3,4],[2,3,4,5],[2,3,4,5,6],[2,3,4,5,6,7],[],[9],[],[9,10,11],[9,10,11,12],[9,10,11,12,13],[2,3,4,5,6,7,8,9,10,11,12,13,14],[2,3,4,5,6,7,8,9,10,11,12,13,14,15],(u9 17),(u9 18),(u9 19)] [[],[144],[],[146],[],[146,147,148],[146,147,148,149],[146,147,148,149,150],[146,147,148,149,150,151],[],[153],[],[153,154,155],[153,154,155,156],[153,154,155,156,157],[146,147,148,149,150,151,152,153,154,155,156,157,158],[146,147,148,149,150,151,152,153,154,155,156,157,158,159],[144,145,146,147,148,149,150,151,152,153,154,155,156,157,158,159,160],[144,145,146,147,148,149,150,151,152,153,154,155,156,157,158,159,160,161],[144,145,146,147,148,149,150,151,152,153,154,155,156,157,158,159,160,161,162]] [[146,147,148,149,150,151,152,153,154,155,156,157,158,159,160],[146,147,148,149,150,151,152,153,154,155,156,157,158,159,160],[144,145,148,153,154,155,156,157,158],[144,145,148,153,154,155,156,157,158],[144,145,146,147,153,154,155,156,157,158],[144,145,153,154,155,156,157,158],[144,145,153,154,155,156,157,158],[144,145,153,154,155,156,157,158],[144,145,153,154,155,156,157,158],[144,145,146,147,148,149,150,151,152,155],[144,145,146,147,148,149,150,151,152,155],[144,145,146,147,148,149,150,151,152,153,154],[144,145,146,147,148,149,150,151,152],[144,145,146,147,148,149,150,151,152],[144,145,146,147,148,149,150,151,152],[144,145],[144,145],[],[],[]] J ?_;refine Wz [13,13,50,177,186] ?_;refine DR.s (Zm J J (cV) J J J) J J ?_;refine Wz [13,50,177,21,245,146,12,125,140,93] ?_
  exact⟨x.Watchers.length-(k+1),by omega,_,⟨k+1,by omega,trivial,J⟩,(by rw[hsn]; exact Xy [0,1,2,3,4,5,6,7,8,9] (by kernel_rfl))⟩
 have f3:decide ((k:Int)<((els x.Watchers).length:Int))=false:=Gqa (by omega)
 have hk:x.Watchers.take k=x.Watchers:=Gqh (by omega)
 rw[hk]
 clear hl2 h3 hk
 refine Wz [69,67,32,16,87,44] ?_
 refine AWP.pre ?_ (Wk.nilbox (p:=2) (i:=10) 10 J J)
 refine Xf (fun m st=>∃ k:Nat,k+m=x.Lines.length∧(True)∧st=(⟨209,[(1,.o (.c (.ptr 0 0))),(2,.o (.c (.ptr 1 0))),(3,.o (.c (.ptr 2 0))),(12,I k)],[.box (mD x),.box zM,.box (mX x (.ref 3) (.ref 4) (.ref 5) (.ref 6) (.ref 7) (.ref 8) (.ref 9) (.ref 10) nv),.row 1 (els x.Level.Rows),.row 1 (els x.Scripts),.row 23 (els x.Peers),.row 1 (els x.Wires),.row 1 (els x.Paces),.row 1 (els x.Acks),.row 6 (els x.Watchers),.row 10 (els (x.Lines.take k))]⟩:St)) (x.Lines.length) ⟨_,⟨0,by omega,trivial,J⟩,Xy [0,1,2,3,4,5,6,7,8,9,10] (by kernel_rfl)⟩ ?_
 rintro m_M _ ⟨k,hk_M,hp_M,rfl⟩
 have hl2:(els (x.Lines.take k)).length=k:=by rw[Yf]; simp; omega
 by_cases h3:k<x.Lines.length
 ·have f3:decide ((k:Int)<((els x.Lines).length:Int))=true:=Gqb (by omega)
  have hat:=Yc h3
  have hm:=Gqd h3
  have hsn:=Yh h3
  generalize x.Lines[k]=u at hat hm hsn
  have cw:=S_l05Copy u (wK u hm)
  refine Wz [69,67,73] ?_
  refine AWP.pre (st':=(⟨209,[(1,.o (.c (.ptr 0 0))),(2,.o (.c (.ptr 1 0))),(3,.o (.c (.ptr 2 0))),(12,I k)],[.box (mD x),.box zM,.box (mX x (.ref 3) (.ref 4) (.ref 5) (.ref 6) (.ref 7) (.ref 8) (.ref 9) (.ref 10) nv),.row 1 (els x.Level.Rows),.row 1 (els x.Scripts),.row 23 (els x.Peers),.row 1 (els x.Wires),.row 1 (els x.Paces),.row 1 (els x.Acks),.row 6 (els x.Watchers),.row 10 (els (x.Lines.take k))]⟩:St)) ?_ (Xz [0,1,2,3,4,5,6,7,8,9,10] (by decide) J ((by kernel_rfl)) (.c J (.c J (.c J (.c J (.nil))))))
  refine Xe u8_21 [[],[170],[],[172],[],[172,173,174],[172,173,174,175],[172,173,174,175,176],[172,173,174,175,176,177],[170,171,172,173,174,175,176,177,178],[170,171,172,173,174,175,176,177,178,179],[170,171,172,173,174,175,176,177,178,179,180]] [[172,173,174,175,176,177,178],[172,173,174,175,176,177,178],[170,171,174],[170,171,174],[170,171,172,173],[170,171],[170,171],[170,171],[170,171],[],[],[]] J ?_;refine Wz [13,13,50,186] ?_;refine DR.s (Zm J J (cw) J J J) J J ?_;refine Wz [146,12,125,140,93] ?_
  exact⟨x.Lines.length-(k+1),by omega,_,⟨k+1,by omega,trivial,J⟩,(by rw[hsn]; exact Xy [0,1,2,3,4,5,6,7,8,9,10] (by kernel_rfl))⟩
 have f3:decide ((k:Int)<((els x.Lines).length:Int))=false:=Gqa (by omega)
 have hk:x.Lines.take k=x.Lines:=Gqh (by omega)
 rw[hk]
 clear hl2 h3 hk
 refine Wz [69,67,32,16,87,44] ?_
 refine AWP.pre ?_ (Wk.nilbox (p:=2) (i:=11) 2 J J)
 refine Xf (fun m st=>∃ k:Nat,k+m=x.Alarms.length∧(True)∧st=(⟨209,[(1,.o (.c (.ptr 0 0))),(2,.o (.c (.ptr 1 0))),(3,.o (.c (.ptr 2 0))),(13,I k)],[.box (mD x),.box zM,.box (mX x (.ref 3) (.ref 4) (.ref 5) (.ref 6) (.ref 7) (.ref 8) (.ref 9) (.ref 10) (.ref 11)),.row 1 (els x.Level.Rows),.row 1 (els x.Scripts),.row 23 (els x.Peers),.row 1 (els x.Wires),.row 1 (els x.Paces),.row 1 (els x.Acks),.row 6 (els x.Watchers),.row 10 (els x.Lines),.row 2 (els (x.Alarms.take k))]⟩:St)) (x.Alarms.length) ⟨_,⟨0,by omega,trivial,J⟩,Xy [0,1,2,3,4,5,6,7,8,9,10,11] (by kernel_rfl)⟩ ?_
 rintro m_R _ ⟨k,hk_R,hp_R,rfl⟩
 have hl2:(els (x.Alarms.take k)).length=k:=by rw[Yf]; simp; omega
 by_cases h3:k<x.Alarms.length
 ·have f3:decide ((k:Int)<((els x.Alarms).length:Int))=true:=Gqb (by omega)
  have hat:=Yc h3
  have hm:=Gqd h3
  have hsn:=Yh h3
  generalize x.Alarms[k]=u at hat hm hsn
  have hrk:=(Yv (xs:=u.Parts) (wB u hm)).1
  have hlk:=Yf u.Parts
  obtain⟨tk,u⟩:=u
  refine Wz [69,67,73] ?_
  refine AWP.pre (st':=(⟨209,[(1,.o (.c (.ptr 0 0))),(2,.o (.c (.ptr 1 0))),(3,.o (.c (.ptr 2 0))),(13,I k)],[.box (mD x),.box zM,.box (mX x (.ref 3) (.ref 4) (.ref 5) (.ref 6) (.ref 7) (.ref 8) (.ref 9) (.ref 10) (.ref 11)),.row 1 (els x.Level.Rows),.row 1 (els x.Scripts),.row 23 (els x.Peers),.row 1 (els x.Wires),.row 1 (els x.Paces),.row 1 (els x.Acks),.row 6 (els x.Watchers),.row 10 (els x.Lines),.row 2 (els (x.Alarms.take k))]⟩:St)) ?_ (Xz [0,1,2,3,4,5,6,7,8,9,10,11] (by decide) J ((by kernel_rfl)) (.c J (.c J (.c J (.c J (.nil))))))
  cases u with
  |nil =>
   refine Xe u8_26 u8_27 u8_28 J ?_;refine Wz [13,13,50,177,21,185,13,50,177,21,246] ?_;refine DR.s (x := .o (.ag [jn tk,.sb 12 0 1])) (Zk J J J J (by kernel_rfl)) J J ?_;refine Wz [146,12] ?_;refine AL.weak (Wk.sbnil (q:=12) 1 J J) ?_;refine Wz [125,140,93] ?_
   exact⟨x.Alarms.length-(k+1),by omega,_,⟨k+1,by omega,trivial,J⟩,(by rw[hsn]; exact Xy [0,1,2,3,4,5,6,7,8,9,10,11] (by kernel_rfl))⟩
  |cons a rs =>
   have hpos:0<(els (a::rs)).length:=by rw[Yf]; simp
   refine Xe u8_26 u8_27 u8_28 J ?_;refine Wz [13,13,50,177,21,185,13,50,177,21] ?_;refine DR.s (q_appz J J J J J J (Yg _) (Ye _) hpos (by omega) (by omega)) J J ?_;refine DR.s (x := .o (.ag [jn tk,.ref 13])) (Zk J J J J (by kernel_rfl)) J J ?_;refine Wz [146,12,125,140,93] ?_
   exact⟨x.Alarms.length-(k+1),by omega,_,⟨k+1,by omega,trivial,J⟩,(by rw[hsn]; exact Xy [0,1,2,3,4,5,6,7,8,9,10,11] (by kernel_rfl))⟩
 have f3:decide ((k:Int)<((els x.Alarms).length:Int))=false:=Gqa (by omega)
 have hk:x.Alarms.take k=x.Alarms:=Gqh (by omega)
 rw[hk]
 clear hl2 h3 hk
 refine Wz [69,67,32,16,45,30,99] ?_
 exact Xi J J J J (Xw [3,4,5,6,7,8,9,10,11] (by decide) J J J)
end
section
open Go.RowKit

def scriptOk (xs:List Int):Bool:=(decide (1≤xs.length)&&decide (xs.length≤400))&&inOk xs
def scriptIn (xs:List Int) (d t:Int):Int:=if (scriptOk xs=true∧inR d 0 5=true)∧0≤t then (if t<d then 0 else xs.getD ((t-d)%(xs.length:Int)).toNat 0) else -1
theorem script_len {xs:List Int} (h:scriptOk xs=true):1≤xs.length∧xs.length≤400:=by
 unfold scriptOk at h
 simp only[Gqk,decide_eq_true_eq] at h
 exact h.1
theorem script_at {xs:List Int} {d t:Int} (h:scriptOk xs=true) (hd:inR d 0 5=true) (h0:0≤t) (h1:¬t<d):∃ hi:((t-d)%(xs.length:Int)).toNat<xs.length,0≤(t-d)%(xs.length:Int)∧(t-d)%(xs.length:Int)<xs.length∧scriptIn xs d t=xs[((t-d)%(xs.length:Int)).toNat]:=by
 have hl:=script_len h
 have h2:0≤(t-d)%(xs.length:Int):=Int.emod_nonneg _ (by omega)
 have h3:(t-d)%(xs.length:Int)<xs.length:=Int.emod_lt_of_pos _ (by omega)
 have hi:((t-d)%(xs.length:Int)).toNat<xs.length:=by omega
 refine⟨hi,h2,h3,?_⟩
 rw[scriptIn,if_pos ⟨⟨h,hd⟩,h0⟩,if_neg h1,Gqf,Gqg hi]
 rfl
theorem script_inR {xs:List Int} {n:Nat} (h:n=xs.length):inR (n:Int) 1 400=(decide (1≤xs.length)&&decide (xs.length≤400)):=by
 subst h
 unfold inR
 congr 1 <;> rw[decide_eq_decide] <;> omega
theorem script_no {xs:List Int} {d t:Int} (h:¬((scriptOk xs=true∧inR d 0 5=true)∧0≤t)):scriptIn xs d t = -1:=if_neg h
theorem script_lo {xs:List Int} {d t:Int} (h:scriptOk xs=true) (hd:inR d 0 5=true) (h0:0≤t) (h1:t<d):scriptIn xs d t=0:=by rw[scriptIn,if_pos ⟨⟨h,hd⟩,h0⟩,if_pos h1]
theorem I_scriptOk (xs:List Int) (hn:Enc.gd xs):Con Tryz.prog 164 [] [al xs] [] (B (scriptOk xs)):=by
 have hl:=Yf xs
 refine Con.of Tryz.func164 J Tryz.ntmps164 J (fun E => ?_)
 refine Wz [1,19,14,212,0,163] ?_;refine zx (Qt.grdT J J J (.hit .stop) (fun hgrd=>Zv J J J)) J ?_;refine Wz [265,49,0,163] ?_;refine zx (Qt.grdT J J J (.hit .stop) (fun hgrd=>Qj J J (I_inputsOk xs hn) J)) J ?_;refine Wz [49,52] ?_
 exact Xk J J (Xw [] (by decide) J J (Xg (by rw[hl,scriptOk]; congr 2 <;> simp <;> omega)))
theorem S_ScriptInput (xs:List Int) (d t:Int) (hn:Enc.gd xs) (ht:I64 t):Con Tryz.prog 155 [] [al xs,ai d,ai t] [] (I (scriptIn xs d t)):=by
 have hl:=Yf xs
 have hx:=hn.1
 obtain⟨ht1,ht2⟩:=ht
 refine Con.of Tryz.func155 J Tryz.ntmps155 J (fun E => ?_)
 refine Wz [138,14] ?_;refine zx (Qj J J (Xv (els xs).length 1 400) J) J ?_;refine Wz [3,0,95] ?_;refine zx (Qt.grdF J J J (.hit .stop) (fun hgrd=>Qj J J (S_inputsOk xs hn) J)) J ?_;refine Wz [194,115,0,95] ?_;refine zx (Qt.grdF J J J (.hit .stop) (fun hgrd=>Qj J J (Xv d 0 5) J)) J ?_;refine Wz [194,115,0,95] ?_;refine zx (Qt.grdF J J J (.hit .stop) (fun hgrd=>Z1 J J J J)) J ?_;refine Wz [43] ?_
 refine Q9 J (fun h => ?_) (fun h => ?_)
 ·rw[script_no (fun ⟨⟨q1,q2⟩,q3⟩=>by rw[script_inR hl] at h; unfold scriptOk at q1; rw[Gqk] at q1; rw[q1.1,q1.2,q2] at h; simp at h; omega)]
  refine Wz [35] ?_
  exact Xk J J (Xw [] (by decide) J J J)
 simp only[Gql,Gqy,decide_eq_false_iff_not] at h
 obtain⟨⟨⟨q0,q1⟩,q2⟩,q3⟩:=h
 rw[script_inR hl] at q0
 have q1:scriptOk xs=true:=by unfold scriptOk; rw[q0,q1]; rfl
 have hsl:=script_len q1
 have hd:=Yu.1 q2
 refine Wz [64,25,38] ?_
 refine Q9 J (fun h => ?_) (fun h => ?_)
 ·rw[script_lo q1 q2 (by omega) (Gqc h)]
  refine Wz [35] ?_
  exact Xk J J (Xw [] (by decide) J J J)
 have h9:=Gqe h
 obtain⟨hi,h2,h3,h4⟩:=script_at q1 q2 (by omega) (Gqe h)
 have hat:(els xs)[((t-d)%((els xs).length:Int)).toNat]? = some (Enc.e xs[((t-d)%(xs.length:Int)).toNat]):=by rw[hl]; simp[els,hi]
 have h5:0≤(t-d)%((els xs).length:Int)∧(t-d)%((els xs).length:Int)<((els xs).length:Int):=by rw[hl]; exact⟨h2,h3⟩
 rw[h4]
 refine Wz [64,157,74,0,14,211,92,52] ?_
 exact Xk J J (Xw [] (by decide) J J J)
end
section
open Go.RowKit

def trackOk (t:TTrack):Bool:=decide ((t.Inputs.length:Int)≤400)&&inOk t.Inputs
def tracksOk (l:List TTrack):Bool:=(decide (1≤l.length)&&decide (l.length≤4))&&l.all trackOk
theorem tracks_no {l:List TTrack} (h:l.length<1∨4<l.length):tracksOk l=false:=by
 rw[tracksOk]
 rcases h with h | h
 ·rw[Gqa (by omega:¬1≤l.length)]; rfl
 ·rw[Gqa (by omega:¬l.length≤4),Bool.and_false]; rfl
theorem tracks_bad {l:List TTrack} (h:l.all trackOk=false):tracksOk l=false:=by rw[tracksOk,h,Bool.and_false]
theorem tracks_yes {l:List TTrack} (h1:1≤l.length) (h2:l.length≤4) (h:l.all trackOk=true):tracksOk l=true:=by rw[tracksOk,h,Gqb h1,Gqb h2]; rfl
theorem tracks_spec {l:List TTrack} (h:tracksOk l=true):1≤l.length∧l.length≤4:=by
 simp only[tracksOk,Gqk,decide_eq_true_eq] at h
 exact h.1
def lenAt (l:List TTrack) (k:Nat):Nat:=(l.getD k ⟨[]⟩).Inputs.length
def leastK (l:List TTrack):Nat→Nat
 |0=>lenAt l 0
 |k+1=>min (leastK l k) (lenAt l k)
def knownTicks (l:List TTrack):Nat:=if tracksOk l=true then leastK l l.length else 0
theorem lenAt_is {l:List TTrack} {k:Nat} (h:k<l.length):lenAt l k=l[k].Inputs.length:=by simp[lenAt,Gqf,h]
theorem least_0 (l:List TTrack):leastK l 0=lenAt l 0:=rfl
theorem least_1 (l:List TTrack):leastK l 1=lenAt l 0:=Nat.min_self _
def faultOk (f:TFault) (n:Int):Bool:=((inR f.Tick 0 400&&decide (0≤f.Player))&&decide (f.Player<n))&&inR f.Add 0 9
theorem fault_S (f:TFault) (n:Int):(((decide (0<n)&&inR f.Tick 0 400)&&inR f.Player 0 (n-1))&&inR f.Add 0 9)=faultOk f n:=by
 rw[faultOk,Bool.eq_iff_iff]
 simp only[Gqk,decide_eq_true_eq,Yu]
 omega
def PeerP (p:TPeer):Prop :=
 (tracksOk p.Tracks=true∧worldOk p.Base=true∧worldOk p.Now=true∧p.Base.Level=p.Now.Level) ∧
 (p.Base.Scores.length=p.Tracks.length∧p.Now.Scores.length=p.Tracks.length∧faultOk p.Fault p.Tracks.length=true) ∧
 ((0≤p.Me∧p.Me≤(p.Tracks.length:Int)-1)∧(0≤p.Delay∧p.Delay≤5)∧(1≤p.Ahead∧p.Ahead≤8)) ∧
 ((0≤p.Seed∧p.Seed≤65535)∧(0≤p.Rolls∧p.Rolls≤1000000)∧(0≤p.Again∧p.Again≤1000000)) ∧
 ((0≤p.Now.Tick-p.Base.Tick∧p.Now.Tick-p.Base.Tick≤p.Ahead)∧(p.Used.length:Int)=p.Now.Tick-p.Base.Tick∧(p.Saves.length:Int)=p.Now.Tick-p.Base.Tick) ∧
 ((p.Used.all fun row=>rowOk row p.Tracks.length)=true∧∀ k (h:k<p.Saves.length),p.Saves[k].Tick=p.Base.Tick+k) ∧
 p.Base.Tick≤knownTicks p.Tracks∧p.Now.Tick≤lenAt p.Tracks p.Me.toNat∧(p.Sums.length:Int)=p.Base.Tick+1
noncomputable def peerOk (p:TPeer):Bool:=@decide (PeerP p) (Classical.propDecidable _)
theorem peer_T {p:TPeer} (h:PeerP p):peerOk p=true:=@decide_eq_true _ (Classical.propDecidable _) h
theorem peer_F {p:TPeer} (h:¬PeerP p):peerOk p=false:=@decide_eq_false _ (Classical.propDecidable _) h
end
section
open Go.RowKit

theorem slEqS (xs ys:List ByteArray) (hn:Enc.gd xs):Con Tryz.prog 239 [] [al xs,al ys] [] (B (decide (xs=ys))):=by
 have hn1:=hn.1
 have hlx:=Yf xs
 have hly:=Yf ys
 by_cases hl:xs.length=ys.length
 ·have hb:decide (((els xs).length:Int)≠((els ys).length:Int))=false:=by rw[hlx,hly,hl]; simp
  refine Con.of Tryz.func239 J Tryz.ntmps239 J (fun E => ?_)
  refine Wz [100,14,83,39,0,123,102] ?_;refine Xf (fun m st=>∃ k:Nat,k+m=xs.length∧(xs.take k=ys.take k)∧st=(⟨_,[(0,L xs),(1,L ys),(12,I (els xs).length),(13,I k)],[]⟩:St)) (xs.length) ⟨_,⟨0,by omega,by simp,J⟩,Xy [] (by kernel_rfl)⟩ ?_
  rintro m_A _ ⟨k,hk_A,hp_A,rfl⟩
  refine Wz [1,38,20] ?_
  refine Q9 J (fun h => ?_) (fun h => ?_)
  ·have h3:k<xs.length:=by have:=Gqc h; omega
   have h4:k<ys.length:=by omega
   have hat:=Yc h3
   have hat2:=Yc h4
   by_cases he:xs[k]=ys[k]
   ·have hk:decide (xs[k]≠ys[k])=false:=by simp[he]
    refine Wz [6,9,5,20] ?_;refine Xe u8_0 u8_29 u8_30 J ?_;refine Wz [120,21,120,21,181,12,79,128,59,75,8,0,4] ?_
    exact⟨xs.length-(k+1),by omega,_,⟨k+1,by omega,Ym h3 h4 hp_A he,J⟩,Xy [] (by kernel_rfl)⟩
   ·have hk:decide (xs[k]≠ys[k])=true:=by simp[he]
    refine Wz [6,9,5,20] ?_;refine Xe u8_0 u8_29 u8_30 J ?_;refine Wz [120,21,120,21,181,12,17,51] ?_
    exact Xk J J (Xw [] (by decide) J J (Xg (eq_ne h3 h4 he).symm))
  ·have h3:¬((k:Int)<(els xs).length):=Gqe h
   refine Wz [16,61] ?_
   exact Xk J J (Xw [] (by decide) J J (Xg (Yk (by omega) hl hp_A).symm))
 ·have hb:decide (((els xs).length:Int)≠((els ys).length:Int))=true:=by rw[hlx,hly]; simp; omega
  refine Con.of Tryz.func239 J Tryz.ntmps239 J (fun E => ?_)
  refine Wz [100,14,33] ?_
  exact Xk J J (Xw [] (by decide) J J (Xg (Yl hl).symm))
theorem I_sameLevel (x y:TLevel) (hg:Enc.gd x):Con Tryz.prog 194 [] [ag x,ag y] [] (B (decide (x=y))):=by
 have h:decide (x.Rows=y.Rows)=decide (x=y):=by cases x; cases y; simp
 refine Con.of Tryz.func194 J Tryz.ntmps194 J (fun E => ?_)
 refine Wz [196,5,1,184] ?_;refine zx (Qj J J (slEqS x.Rows y.Rows hg) J) J ?_;refine Wz [52] ?_
 exact Xk J J (Xw [] (by decide) J J (Xg h))
end
section
open Go.RowKit

theorem S_sameLevel (x y:TLevel) (hg:Enc.gd x):Con Tryz.prog 156 [] [ag x,ag y] [] (B (decide (x=y))):=by
 have he:decide (x.Rows=y.Rows)=decide (x=y):=by cases x; cases y; simp
 rw[←he]
 clear he
 obtain⟨xs⟩:=x
 obtain⟨ys⟩:=y
 have hn:Enc.gd xs:=hg
 have hn1:=hn.1
 show Con _ _ _ _ _ (B (decide (xs=ys)))
 have hlx:=Yf xs
 have hly:=Yf ys
 by_cases hl:xs.length=ys.length
 ·have hb:decide (((els xs).length:Int)≠((els ys).length:Int))=false:=by rw[hlx,hly,hl]; simp
  refine Con.of Tryz.func156 J Tryz.ntmps156 J (fun E => ?_)
  refine Wz [122,67,67,83,39,44] ?_;refine Xf (fun m st=>∃ k:Nat,k+m=xs.length∧(xs.take k=ys.take k)∧st=(⟨_,[(2,.o (.c (.ptr 0 0))),(3,.o (.c (.ptr 1 0))),(5,I k)],[.box [.rd [] (sl xs)],.box [.rd [] (sl ys)]]⟩:St)) (xs.length) ⟨_,⟨0,by omega,by simp,J⟩,Xy [0,1] (by kernel_rfl)⟩ ?_
  rintro m_A _ ⟨k,hk_A,hp_A,rfl⟩
  refine Wz [69,67,38] ?_
  refine Q9 J (fun h => ?_) (fun h => ?_)
  ·have h3:k<xs.length:=by have:=Gqc h; omega
   have h4:k<ys.length:=by omega
   have hat:=Yc h3
   have hat2:=Yc h4
   by_cases he:xs[k]=ys[k]
   ·have hk:decide (xs[k]≠ys[k])=false:=by simp[he]
    refine Wz [84] ?_;refine Xe u8_31 u8_32 u8_33 J ?_;refine Wz [13,50,21,13,50,21,181,12,79,58] ?_
    exact⟨xs.length-(k+1),by omega,_,⟨k+1,by omega,Ym h3 h4 hp_A he,J⟩,Xy [0,1] (by kernel_rfl)⟩
   ·have hk:decide (xs[k]≠ys[k])=true:=by simp[he]
    refine Wz [84] ?_;refine Xe u8_31 u8_32 u8_33 J ?_;refine Wz [13,50,21,13,50,21,181,12,17,51] ?_
    exact Xk J J (Xw [] (by decide) J J (Xg (eq_ne h3 h4 he).symm))
  ·have h3:¬((k:Int)<(els xs).length):=Gqe h
   refine Wz [16,61] ?_
   exact Xk J J (Xw [] (by decide) J J (Xg (Yk (by omega) hl hp_A).symm))
 ·have hb:decide (((els xs).length:Int)≠((els ys).length:Int))=true:=by rw[hlx,hly]; simp; omega
  refine Con.of Tryz.func156 J Tryz.ntmps156 J (fun E => ?_)
  refine Wz [122,67,67,33] ?_
  exact Xk J J (Xw [] (by decide) J J (Xg (Yl hl).symm))
end
section
open Go.RowKit

theorem I_TrackOk (t:TTrack) (g:Enc.gd t):Con Tryz.prog 237 [] [ag t] [] (B (trackOk t)):=by
 have hl:=Yf t.Inputs
 refine Con.of Tryz.func237 J Tryz.ntmps237 J (fun E => ?_)
 refine Wz [47,41,14,199,0,112,113] ?_;refine zx (Qt.grdT J J J (.hit (.hit .stop)) (fun hgrd=>Qj J J (I_inputsOk t.Inputs g) J)) J ?_;refine Wz [49,52] ?_
 exact Xk J J (Xw [] (by decide) J J (Xg (by rw[hl]; rfl)))
theorem S_TrackOk (t:TTrack) (g:Enc.gd t):Con Tryz.prog 231 [] [ag t] [] (B (trackOk t)):=by
 have hl:=Yf t.Inputs
 refine Con.of Tryz.func231 J Tryz.ntmps231 J (fun E => ?_)
 refine Wz [47,41,14,199,0,112,113] ?_;refine zx (Qt.grdT J J J (.hit (.hit .stop)) (fun hgrd=>Qj J J (S_inputsOk t.Inputs g) J)) J ?_;refine Wz [49,52] ?_
 exact Xk J J (Xw [] (by decide) J J (Xg (by rw[hl]; rfl)))
theorem I_TracksOk (xs:List TTrack) (g:Enc.gd xs):Con Tryz.prog 192 [] [al xs] [] (B (tracksOk xs)):=by
 have hl:=Yf xs
 refine Con.of Tryz.func192 J Tryz.ntmps192 J (fun E => ?_)
 refine Wz [138,14,153,0,95] ?_;refine zx (Qt.grdF J J J (.hit .stop) (fun hgrd=>Zv J J J)) J ?_;refine zx (Qt.grdF J J J (.hit (.hit .stop)) (fun hgrd=>Zt J J J J)) J ?_;refine Wz [43] ?_
 refine Q9 J (fun h => ?_) (fun h => ?_)
 ·simp only[Gqo,decide_eq_true_eq] at h
  rw[tracks_no (by omega)]
  refine Wz [35] ?_
  exact Xk J J (Xw [] (by decide) J J J)
 simp only[Gql,decide_eq_false_iff_not] at h
 refine Wz [48,0,123,102] ?_;refine Xf (fun m st=>∃ k:Nat,k+m=xs.length∧((xs.take k).all trackOk=true)∧st=(⟨_,[(13,L xs),(14,I (els xs).length),(15,I k)],[]⟩:St)) (xs.length) ⟨_,⟨0,by omega,by simp,J⟩,Xy [] (by kernel_rfl)⟩ ?_
 rintro m_A _ ⟨k,hk_A,hp_A,rfl⟩
 refine Wz [1,38,20] ?_
 refine Q9 J (fun h => ?_) (fun h => ?_)
 ·have h3:k<xs.length:=by have:=Gqc h; omega
  have hat:=Yc h3
  have hc:=I_TrackOk xs[k] (g.2 _ (Gqd h3))
  cases ho:trackOk xs[k] with
  |false =>
   rw[ho] at hc
   rw[tracks_bad (all_no h3 ho)]
   refine Wz [6,1,37,40,30,45] ?_;refine zx (Qj J J (hc) J) J ?_;refine Wz [3,17,51] ?_
   exact Xk J J (Xw [] (by decide) J J J)
  |true =>
   rw[ho] at hc
   refine Wz [6,1,37,40,30,45] ?_;refine zx (Qj J J (hc) J) J ?_;refine Wz [3,79,128,59,75,8,0,4] ?_
   exact⟨xs.length-(k+1),by omega,_,⟨k+1,by omega,X3 hp_A h3 ho,J⟩,Xy [] (by kernel_rfl)⟩
 ·have h3:¬((k:Int)<(els xs).length):=Gqe h
  rw[tracks_yes (by omega) (by omega) (X1 hp_A (by omega))]
  refine Wz [16,61] ?_
  exact Xk J J (Xw [] (by decide) J J J)
theorem S_TracksOk (xs:List TTrack) (g:Enc.gd xs):Con Tryz.prog 181 [] [al xs] [] (B (tracksOk xs)):=by
 have hl:=Yf xs
 have hg1:=g.1
 refine Con.of Tryz.func181 J Tryz.ntmps181 J (fun E => ?_)
 refine Wz [103] ?_;refine Xf (fun m st=>∃ k:Nat,k+m=xs.length∧((xs.take k).all trackOk=true)∧st=(⟨_,[(0,L xs),(3,I k)],[]⟩:St)) (xs.length) ⟨_,⟨0,by omega,by simp,J⟩,Xy [] (by kernel_rfl)⟩ ?_
 rintro m_A _ ⟨k,hk_A,hp_A,rfl⟩
 refine Wz [57] ?_
 refine Q9 J (fun h => ?_) (fun h => ?_)
 ·have h3:k<xs.length:=by have:=Gqc h; omega
  have hat:=Yc h3
  have hc:=S_TrackOk xs[k] (g.2 _ (Gqd h3))
  cases ho:trackOk xs[k] with
  |false =>
   rw[ho] at hc
   rw[tracks_bad (all_no h3 ho)]
   refine Wz [6,7,37] ?_;refine zx (Qj J J (hc) J) J ?_;refine Wz [3,17,51] ?_
   exact Xk J J (Xw [] (by decide) J J J)
  |true =>
   rw[ho] at hc
   refine Wz [6,7,37] ?_;refine zx (Qj J J (hc) J) J ?_;refine Wz [3,79,58] ?_
   exact⟨xs.length-(k+1),by omega,_,⟨k+1,by omega,X3 hp_A h3 ho,J⟩,Xy [] (by kernel_rfl)⟩
 ·have h3:¬((k:Int)<(els xs).length):=Gqe h
  have hall:=X1 hp_A (by omega)
  refine Wz [16,9,14] ?_;refine zx (Qj J J (Xv (els xs).length 1 4) J) J ?_;refine Wz [52] ?_
  exact Xk J J (Xw [] (by decide) J J (Xg (by
   rw[hl]
   by_cases h4:1≤xs.length∧xs.length≤4
   ·rw[tracks_yes h4.1 h4.2 hall,Yu.2 (by omega)]
   ·rw[tracks_no (by omega),←Gxo,Yu]; omega)))
theorem least_next {l:List TTrack} {k:Nat} (h:k<l.length):((leastK l (k+1):Nat):Int)=min ((leastK l k:Nat):Int) ((els l[k].Inputs).length:Int):=by
 rw[leastK,lenAt_is h,Yf]
 omega
theorem I_KnownTicks (xs:List TTrack) (g:Enc.gd xs):Con Tryz.prog 197 [] [al xs] [] (I (knownTicks xs:Nat)):=by
 have hl:=Yf xs
 have hc:=I_TracksOk xs g
 cases ho:tracksOk xs with
 |false =>
  rw[ho] at hc
  rw[show knownTicks xs=0 from if_neg (by rw[ho]; decide)]
  refine Con.of Tryz.func197 J Tryz.ntmps197 J (fun E => ?_)
  refine Wz [138] ?_;refine zx (Qj J J (hc) J) J ?_;refine Wz [3,23] ?_
  exact Xk J J (Xw [] (by decide) J J J)
 | true =>
  rw[ho] at hc
  rw[show knownTicks xs=leastK xs xs.length from if_pos ho]
  obtain⟨h1,h4⟩:=tracks_spec ho
  have h0:0<xs.length:=by omega
  have hat0:(els xs)[(0:Int).toNat]? = some (Enc.e xs[0]):=Yc h0
  refine Con.of Tryz.func197 J Tryz.ntmps197 J (fun E => ?_)
  refine Wz [138] ?_;refine zx (Qj J J (hc) J) J ?_;refine Wz [3,54,9,119,195,14,46,123,102] ?_;refine Xf (fun m st=>∃ k:Nat,k+m=xs.length∧(True)∧st=(⟨_,[(3,I (leastK xs k:Nat)),(14,L xs),(15,I (els xs).length),(16,I k)],[]⟩:St)) (xs.length) ⟨(fun k:Nat=>(⟨_,[(3,I (leastK xs k:Nat)),(14,L xs),(15,I (els xs).length),(16,I k)],[]⟩:St)) 0,⟨0,by omega,trivial,J⟩,Xz [] (by decide) J (by kernel_rfl) (.cons (Xn (by rw[least_0,lenAt_is h0,Yf])) (.c J (.c J (.c J (.nil)))))⟩ ?_
  rintro m_A _ ⟨k,hk_A,hp_A,rfl⟩
  refine Wz [1,38,20] ?_
  refine Q9 J (fun h => ?_) (fun h => ?_)
  ·have h3:k<xs.length:=by have:=Gqc h; omega
   have hat:=Yc h3
   refine Wz [6,1,37,40,30,106,67] ?_;refine zx (q_min J J J J) J ?_;refine Wz [149,127,59,75,8,0,4] ?_
   exact⟨xs.length-(k+1),by omega,(fun k:Nat=>(⟨_,[(3,I (leastK xs k:Nat)),(14,L xs),(15,I (els xs).length),(16,I k)],[]⟩:St)) (k+1),⟨k+1,by omega,trivial,J⟩,Xz [] (by decide) J (by kernel_rfl) (.cons (Xn (least_next h3).symm) (.c J (.c J (.c J (.nil)))))⟩
  ·have h3:¬((k:Int)<(els xs).length):=Gqe h
   have hk:k=xs.length:=by omega
   rw[hk]
   refine Wz [27] ?_
   exact Xk J J (Xw [] (by decide) J J J)
theorem S_KnownTicks (xs:List TTrack) (g:Enc.gd xs):Con Tryz.prog 184 [] [al xs] [] (I (knownTicks xs:Nat)):=by
 have hl:=Yf xs
 have hc:=S_TracksOk xs g
 cases ho:tracksOk xs with
 |false =>
  rw[ho] at hc
  rw[show knownTicks xs=0 from if_neg (by rw[ho]; decide)]
  refine Con.of Tryz.func184 J Tryz.ntmps184 J (fun E => ?_)
  refine Wz [138] ?_;refine zx (Qj J J (hc) J) J ?_;refine Wz [3,23] ?_
  exact Xk J J (Xw [] (by decide) J J J)
 | true =>
  rw[ho] at hc
  rw[show knownTicks xs=leastK xs xs.length from if_pos ho]
  obtain⟨h1,h4⟩:=tracks_spec ho
  have h0:0<xs.length:=by omega
  have hat0:(els xs)[(0:Int).toNat]? = some (Enc.e xs[0]):=Yc h0
  refine Con.of Tryz.func184 J Tryz.ntmps184 J (fun E => ?_)
  refine Wz [138] ?_;refine zx (Qj J J (hc) J) J ?_;refine Wz [3,54,9,119,195,14,130] ?_;refine Xf (fun m__ st=>∃ (k:Nat),xs.length-k=m__∧(1≤k∧k≤xs.length)∧st=(⟨_,[(0,L xs),(3,I (leastK xs k:Nat)),(4,I k)],[]⟩:St)) _ ⟨(fun (k:Nat)=>(⟨_,[(0,L xs),(3,I (leastK xs k:Nat)),(4,I k)],[]⟩:St)) (1),⟨1,J,⟨by omega,by omega⟩,J⟩,Xz [] (by decide) J (by kernel_rfl) (.c J (.cons (Xn (by rw[least_1,lenAt_is h0,Yf])) (.c J (.nil))))⟩ ?_
  rintro m_A _ ⟨k,hk_A,hp_A,rfl⟩
  refine Wz [57] ?_
  refine Q9 J (fun h => ?_) (fun h => ?_)
  ·have h3:k<xs.length:=by have:=Gqc h; omega
   have hat:=Yc h3
   refine Wz [6,78,0,119,195,14] ?_;refine zx (q_min J J J J) J ?_;refine Wz [76] ?_
   refine⟨_,(by omega),(fun (k:Nat)=>(⟨_,[(0,L xs),(3,I (leastK xs k:Nat)),(4,I k)],[]⟩:St)) (k+1),⟨k+1,J,⟨by omega,by omega⟩,J⟩,Xz [] (by decide) J (by kernel_rfl) (.c J (.cons (Xn (least_next h3).symm) (.c J (.nil))))⟩
  ·have h3:¬((k:Int)<(els xs).length):=Gqe h
   have hk:k=xs.length:=by omega
   rw[hk]
   refine Wz [27] ?_
   exact Xk J J (Xw [] (by decide) J J J)
theorem I_FaultOk (f:TFault) (n:Int) (hn:0≤n):Con Tryz.prog 195 [] [ag f,ai n] [] (B (faultOk f n)):=by
 refine Con.of Tryz.func195 J Tryz.ntmps195 J (fun E => ?_)
 refine Wz [47,41] ?_;refine zx (Qj J J (Xm f.Tick 0 400) J) J ?_;refine Wz [0,112,113] ?_;refine zx (Qt.grdT J J J (.hit (.hit .stop)) (fun hgrd=>q_geq J J J J)) J ?_;refine Wz [49,0,112,113,286] ?_;refine zx (Qt.grdT J J J (.hit (.hit (.hit .stop))) (fun hgrd=>Z1 J J J J)) J ?_;refine Wz [49,0,112,113] ?_;refine zx (Qt.grdT J J J (.hit (.hit .stop)) (fun hgrd=>Qj J J (Xm f.Add 0 9) J)) J ?_;refine Wz [49,52] ?_
 exact Xk J J (Xw [] (by decide) J J J)
theorem S_FaultOk (f:TFault) (n:Int) (hn:0≤n) (hn2:n≤9223372036854775807):Con Tryz.prog 182 [] [ag f,ai n] [] (B (faultOk f n)):=by
 refine Con.of Tryz.func182 J Tryz.ntmps182 J (fun E => ?_)
 refine Wz [124,19,233,0,112,113] ?_;refine zx (Qt.grdT J J J (.hit (.hit .stop)) (fun hgrd=>Qj J J (Xv f.Tick 0 400) J)) J ?_;refine Wz [49,0,112,113,286] ?_;refine zx (Qt.grdT J J J (.hit (.hit (.hit .stop))) (fun hgrd=>Xa J J J J (by omega))) J ?_;refine zx (Qt.grdT J J J (.hit (.hit (.hit (.hit .stop)))) (fun hgrd=>Qj J J (Xv f.Player 0 (n-1)) J)) J ?_;refine Wz [49,0,112,113] ?_;refine zx (Qt.grdT J J J (.hit (.hit .stop)) (fun hgrd=>Qj J J (Xv f.Add 0 9) J)) J ?_;refine Wz [49,52] ?_
 exact Xk J J (Xw [] (by decide) J J (Xg (fault_S f n)))
end
end Go.Proofs.YtoecjaohdnoenaaGreat
