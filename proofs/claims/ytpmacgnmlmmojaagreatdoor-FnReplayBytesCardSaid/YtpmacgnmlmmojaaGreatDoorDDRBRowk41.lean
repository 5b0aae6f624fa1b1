/-
  The law FnReplayBytes returns true.
  Conditions: the variable of the library's that the search in texts reads.
-/
import Derived.Test.YtpmacgnmlmmojaaGreatDoorDDRBRowk40
set_option linter.unusedSimpArgs false
set_option linter.unusedVariables false
set_option maxRecDepth 20000
set_option maxHeartbeats 8000000
namespace Go.Proofs.YtpmacgnmlmmojaaGreatDoor
section
open Go.RowKit

@[reducible] def sq {α:Type} [Enc α] (xs:List α):V1 := .rd [] (sl xs)
@[reducible] def rR (r:TReplay):List V1 := [sq r.Level.Rows,jn r.Players,jn r.Seed,jn r.Every,sq r.Rows,sq r.Keys]
@[reducible] def rO (r:TReplay) (a b c:Nat):List V1 := [.ref a,jn r.Players,jn r.Seed,jn r.Every,.ref b,.ref c]
theorem I_DecNone (t:ByteArray) (hs:t.size≤16777216) (ho:openText t=none):Con Tryz.prog 21 [] [astr t] (ownO (Enc.e zeroR)) (.tu [.ag (ownV 0 (Enc.e zeroR)),.c (bv false)]):=by
 have hot:=I_OpenText t (by omega)
 rw[ho] at hot
 refine Con.of Tryz.func21 J Tryz.ntmps21 J (fun E => ?_)
 refine Wz [1,90,32] ?_;refine V6 (Kh J J (hot) J J J) J ?_;refine Wz [118,130,93] ?_
 exact G4 J J (Ye [1,1,1] [1,2,3] J J (by decide) J J J)
theorem law_ReplayBytes (code:List UInt8) (hg:Enc.gd code):ConP MaxW Tryz.prog 4 [al code] [] (B true):=by
 have cb:=L_big code
 by_cases hb:code.length>1048576
 ·rw[Gqb hb] at cb
  refine ConP.of Tryz.func4 J Tryz.ntmps4 J (fun E hE hT => ?_)
  refine Wz [94] ?_;refine zx (Qj J J (cb) J) J ?_;refine Wz [28,31] ?_
  exact Gq J (Gr [] J J J)
 rw[Gqa hb] at cb
 have hb:code.length≤1048576:=by omega
 have cd:=S_DrawReplay code hb
 have R:=repl_rd (b:=code) (c:=newCu code) (Gq2 _)
 have hro:=rRows_ok code (newCu code)
 have hlb:=rl_back code (newCu code)
 have ca0:=L_at code 0 (by omega) hb
 have ca1:=L_at code 1 (by omega) hb
 have ca2:=L_at code 2 (by omega) hb
 have hk0:=atM_rng code 0
 have hk1:=atM_rng code 1
 have hk2:=atM_rng code 2
 generalize atM code 0=a0 at ca0 hk0
 generalize atM code 1=a1 at ca1 hk1
 generalize atM code 2=a2 at ca2 hk2
 unfold replD at cd
 generalize (rlD code (newCu code)).1=l at cd R hlb
 generalize (rsD code (newCu code)).1=seed at cd R
 generalize (rRows code (newCu code)).1=rows at cd R hro
 generalize rN code (newCu code)=n at cd R hro
 generalize rE code (newCu code)=e at cd R
 obtain⟨hlv,htx,hwl⟩:=hlb
 have gr:Enc.gd rows:=gd_rows (n:=n) (by omega) (by have:=R.hn; omega) hro.2
 have hre:=R.rep gr (k:=rows.length) (Gqf _)
 have hr0:=R.rep gr (k:=0) (Gq2 _)
 have hok:=R.ok (Gqf rows.length)
 have hL:=hro.1
 have hlr:=Y9 rows
 have hs0:=Zn.1 R.hs
 have hn0:=R.hn
 have he0:=R.he
 have hsz:=R.bytes hL htx
 have hbk:=R.back gr hlv htx
 have ce:=I_EncR _ (R.repE gr hwl htx) hok
 obtain⟨s,hs⟩:∃ s,encodeReplay (replK l n seed e rows rows.length)=s:=⟨_,rfl⟩
 have hst:s=sealText (encB (replK l n seed e rows rows.length)):=by rw[←hs,encodeReplay,if_pos hok]
 rw[hs] at hsz hbk ce
 have cdd:=I_DecodeReplay s (by omega)
 rw[hbk] at cdd
 unfold drV drB at cdd
 simp only at cdd
 obtain⟨k,hk⟩:∃ k:Nat,(k:Int)=a0%((s.size:Nat):Int):=⟨(a0%((s.size:Nat):Int)).toNat,Int.toNat_of_nonneg (Int.emod_nonneg _ (by omega))⟩
 have hkl:k<s.size:=by have:=Int.emod_lt_of_pos a0 (b:=((s.size:Nat):Int)) (by omega); omega
 obtain⟨m,hm⟩:∃ m:Nat,(m:Int)=a2%((rows.length:Int)+1):=⟨(a2%((rows.length:Int)+1)).toNat,Int.toNat_of_nonneg (Int.emod_nonneg _ (by omega))⟩
 have hml:m≤rows.length:=by have:=Int.emod_lt_of_pos a2 (b:=(rows.length:Int)+1) (by omega); omega
 have hy:1≤1+a1%255∧1+a1%255≤255:=by omega
 have cbad:∀ t,t=flipB s k (((byteAt s k).toNat^^^(1+a1%255).toNat:Nat):Int)→Con Tryz.prog 21 [] [astr t] (ownO (Enc.e zeroR)) (.tu [.ag (ownV 0 (Enc.e zeroR)),.c (bv false)]):=fun t ht=>by
  have h1:openText t=none:=by
   rw[ht,hst]
   exact flip_open (by rw[←hst]; exact hkl) hy
  exact I_DecNone t (by rw[ht,flipB_size hkl]; omega) h1
 have hcut:=R.cut hml
 have cc:=I_CutReplay (replK l n seed e rows rows.length) m hre.1.gd ⟨by omega,by omega⟩ hre.1.h1 hre.1.h2 hre.1.h3
 rw[hcut.1,hcut.2] at cc
 have cn:=I_NewReplay l n seed e R.gl R.ll ⟨by omega,by omega⟩ ⟨by omega,by omega⟩ ⟨by omega,by omega⟩
 have hrep0:(⟨l,(n:Int),seed,(e:Int),[],[]⟩:TReplay)=replK l n seed e rows 0:=by rw[replK,Nat.zero_div]; rfl
 have hok0:=R.ok (Gq2 _)
 rw[show newReplay l n seed e=replK l n seed e rows 0 by rw[newReplay,hrep0,hok0]; rfl,hrep0,hok0] at cn
 have hrx:=R.rep gr hml
 have hw4:∀ row∈rows,row.length≤1048576:=fun r hr=>by rw[(hro.2 r hr).1]; omega
 have hsub:∀ {z:List (List Int)},(∀ r∈z,r∈rows)→z.length≤rows.length→Enc.gd z:=fun h1 h2=>⟨by omega,fun r hr=>gr.2 r (h1 r hr)⟩
 have cA:=I_AddRows (replK l n seed e rows 0) (rows.take m) (hsub (fun r hr=>Gxc hr) (by rw[Gqx]; omega)) hr0.1 (fun r hr=>hw4 r (Gxc hr)) hr0.2
 have cB:=I_AddRows (replK l n seed e rows m) (rows.drop m) (hsub (fun r hr=>Gxw hr) (by rw[Gq0]; omega)) hrx.1 (fun r hr=>hw4 r (Gxw hr)) hrx.2
 rw[R.adds0 hml,show al (rows.take m) = .c (.rd [] (.sl 1 ((els rows).take ((m:Nat):Int).toNat))) by
  show V2.c (.rd [] (.sl 1 (List.map Enc.e (rows.take m))))=_
  rw[List.map_take,Int.toNat_natCast]] at cA
 rw[R.addsR hml,show al (rows.drop m) = .c (.rd [] (.sl 1 ((els rows).drop ((m:Nat):Int).toNat))) by
  show V2.c (.rd [] (.sl 1 (List.map Enc.e (rows.drop m))))=_
  rw[List.map_drop,Int.toNat_natCast]] at cB
 have hrR:(replK l n seed e rows rows.length).Rows=rows:=Gq1
 have cA:Con Tryz.prog 24 [] [ag (replK l n seed e rows 0),.c (.rd [] (.sl 1 ((els (replK l n seed e rows rows.length).Rows).take ((m:Nat):Int).toNat)))] (ownO (Enc.e (replK l n seed e rows m))) (.tu [.ag (ownV 0 (Enc.e (replK l n seed e rows m))),.c (bv true)]):=by rw[hrR]; exact cA
 have cB:Con Tryz.prog 24 [] [ag (replK l n seed e rows m),.c (.rd [] (.sl 1 ((els (replK l n seed e rows rows.length).Rows).drop ((m:Nat):Int).toNat)))] (ownO (Enc.e (replK l n seed e rows rows.length))) (.tu [.ag (ownV 0 (Enc.e (replK l n seed e rows rows.length))),.c (bv true)]):=by rw[hrR]; exact cB
 have cn:Con Tryz.prog 23 [] [ag (replK l n seed e rows rows.length).Level,ai (replK l n seed e rows rows.length).Players,ai (replK l n seed e rows rows.length).Seed,ai (replK l n seed e rows rows.length).Every] (ownO (Enc.e (replK l n seed e rows 0))) (.tu [.ag (ownV 0 (Enc.e (replK l n seed e rows 0))),.c (bv true)]):=cn
 have hgr:=hre.1.gd
 have hgx:=hrx.1.gd
 have hm2:(m:Int)=a2%(((els (replK l n seed e rows rows.length).Rows).length:Int)+1):=by rw[hrR,hlr]; exact hm
 have hmr:m≤(els (replK l n seed e rows rows.length).Rows).length:=by rw[hrR,hlr]; exact hml
 have hrl24:(els (replK l n seed e rows rows.length).Rows).length≤24:=by rw[hrR,hlr]; exact hL
 clear hs hst hbk hlv hwl hcut hok0 hok hre hr0 hrx hrep0 hsub hw4 R gr hro
 generalize hgq:replK l n seed e rows rows.length=r at cd ce cdd cc cA cB cn hgr hm2 hmr hrl24
 generalize hgx2:replK l n seed e rows m=x at cc cA cB hgx
 generalize hg0:replK l n seed e rows 0=z at cA cn
 have cs1:=I_SameReplay r r hgr
 have cs2:=I_SameReplay x x hgx
 rw[Gqb rfl] at cs1 cs2
 have f0:decide (((s.size:Nat):Int)=0)=false:=Gqa (by omega)
 obtain⟨xb,hxb⟩:∃ xb:Int,xb=(((byteAt s k).toNat^^^(1+a1%255).toNat:Nat):Int):=⟨_,rfl⟩
 have hz1:(s.extract 0 ((k:Nat):Int).toNat).size=k:=by rw[Gxe]; omega
 have hz2:(⟨[UInt8.ofNat xb.toNat].toArray⟩:ByteArray).size=1:=rfl
 have hz3:=Yy (s.extract 0 ((k:Nat):Int).toNat) ⟨[UInt8.ofNat xb.toNat].toArray⟩
 have hz4:(s.extract (((k:Nat):Int)+1).toNat s.size).size≤s.size:=by rw[Gxe]; omega
 rw[hxb] at hz2 hz3
 have hby:=Yu s ((k:Nat):Int).toNat
 have hq1:(0:Int)≤(m:Int)∧(m:Int)≤(((els r.Rows).length:Nat):Int):=by omega
 refine ConP.of Tryz.func4 J Tryz.ntmps4 J (fun E hE hT => ?_)
 refine Wz [94] ?_;refine zx (Qj J J (cb) J) J ?_;refine Wz [76] ?_;refine V6 (Kh J J (cd) J J J) J ?_;refine Wz [75,6] ?_;refine AL.freeze (p:=0) J ?_;refine AL.freeze (p:=1) J ?_;refine AL.freeze (p:=2) J ?_;refine AL.weak (st':=(⟨134,[(0,L code),(3,.o (.c (.ptr 0 0))),(23,.o (.ag (rR r)))],[.box (rR r)]⟩:St)) (Gs [3]) ?_;refine zx (Qj J J (ce) J) J ?_;refine Wz [32] ?_;refine X5 Zw hE hT (cdd) J J J J J J J ?_;refine Wz [228,52,143,13,76] ?_;refine zx (Qj J J (ca0) J) J ?_;refine Wz [0,143,111,23] ?_
 refine AWP.pre (st':=(⟨134,[(0,L code),(3,.o (.c (.ptr 0 0))),(4,S s),(5,.o (.c (.ptr 4 0))),(6,B true),(7,I k)],[.box (rR r),.row 1 (els r.Level.Rows),.row 1 (els r.Rows),.row 1 (els r.Keys),.box (rO r 1 2 3)]⟩:St)) ?_ (Gp [0,1,2,3,4] J (.c J (.c J (.c J (.c J (.c J (.cons (Xz hk.symm) (.nil))))))))
 refine Xh [[],[],[0,1],[],[],[3,4],[],[6],[6,7],[6,7,8],[6,7,8,9],[3,4,5,6,7,8,9,10],[3,4,5,6,7,8,9,10,11],[3,4,5,6,7,8,9,10,11,12],(u9 14),[],[],[16],[15,16,17],(u9 19),(u9 20),(u9 21),(u9 22),(u9 22),[],[0,1,2,3,4,5,6,7,8,9,10,11,12,13,14,15,16,17,18,19,20,21,22,24],(u9 26)] [[],[],[39,40],[],[],[42,43],[],[45],[45,46],[45,46,47],[45,46,47,48],[42,43,44,45,46,47,48,49],[42,43,44,45,46,47,48,49,50],[42,43,44,45,46,47,48,49,50,51],[39,40,41,42,43,44,45,46,47,48,49,50,51,52],[],[],[55],[54,55,56],[39,40,41,42,43,44,45,46,47,48,49,50,51,52,53,54,55,56,57],[39,40,41,42,43,44,45,46,47,48,49,50,51,52,53,54,55,56,57,58],[39,40,41,42,43,44,45,46,47,48,49,50,51,52,53,54,55,56,57,58,59],[38,39,40,41,42,43,44,45,46,47,48,49,50,51,52,53,54,55,56,57,58,59],[38,39,40,41,42,43,44,45,46,47,48,49,50,51,52,53,54,55,56,57,58,59],[],[8,38,39,40,41,42,43,44,45,46,47,48,49,50,51,52,53,54,55,56,57,58,59,60],[8,38,39,40,41,42,43,44,45,46,47,48,49,50,51,52,53,54,55,56,57,58,59,60,61]] [[8,40,42,43,44,45,46,47,48,49,50,51,52,54,55,56,57],[8,39,42,43,44,45,46,47,48,49,50,51,52,54,55,56,57],[8,42,43,44,45,46,47,48,49,50,51,52,54,55,56,57],[8,39,40,41,43,45,46,47,48,49,54,55,56,57],[8,39,40,41,42,45,46,47,48,49,54,55,56,57],[8,39,40,41,45,46,47,48,49,54,55,56,57],[8,39,40,41,42,43,44,54,55,56,57],[8,39,40,41,42,43,44,54,55,56,57],[8,39,40,41,42,43,44,54,55,56,57],[8,39,40,41,42,43,44,54,55,56,57],[8,39,40,41,42,43,44,54,55,56,57],[8,39,40,41,54,55,56,57],[8,39,40,41,54,55,56,57],[8,39,40,41,54,55,56,57],[8,54,55,56,57],[8,39,40,41,42,43,44,45,46,47,48,49,50,51,52,53,55,56],[8,39,40,41,42,43,44,45,46,47,48,49,50,51,52,53,54],[8,39,40,41,42,43,44,45,46,47,48,49,50,51,52,53,54],[8,39,40,41,42,43,44,45,46,47,48,49,50,51,52,53],[8],[8],[8],[8,61],[8,60],[38,39,40,41,42,43,44,45,46,47,48,49,50,51,52,53,54,55,56,57,58,59,60,61],[61],[],[23]] J ?_;refine Wz [29] ?_;refine Vx (q_sslice0 J J J J (by omega)) J ?_;refine Wz [29] ?_;refine Vx (Kf J J J J (by omega)) J (Vx (Qa J J J) J ?_);refine Vx (Qj J J (ca1) J) J ?_;refine Wz [271,164] ?_;refine Vx (Ki J J J J (Vu (by omega))) J (Vx (q_bxor8 J J J J (by omega)) J (Vx (Kb J J J J J J) J (Vx (q_bstrb J J J J J) J ?_)))
 refine Vx (q_cat J J J J (by simp only[Ys,Yy,Gqt,List.length_nil,Gqe]; omega)) J ?_
 refine Wz [29,164] ?_;refine Vx (K2 J J J J (by omega)) J ?_
 refine Vx (q_cat J J J J (by simp only[Ys,Yy,Gqt,List.length_nil,Gqe]; omega)) J ?_
 refine Vx (Kh J J ((cbad _ (by rfl))) J J J) J ?_;refine Wz [185,122,122,184,17,170,23] ?_
 refine AWP.pre (st':=(⟨134,[(0,L code),(3,.o (.c (.ptr 0 0))),(5,.o (.c (.ptr 4 0))),(6,B true),(9,B false)],[.box (rR r),.row 1 (els r.Level.Rows),.row 1 (els r.Rows),.row 1 (els r.Keys),.box (rO r 1 2 3)]⟩:St)) ?_ (Gs [0,1,2,3,4])
 refine Xh [[],[0],[],[2],[2,3],[2,3,4],(u9 6),(u9 7)] [[],[62],[],[64],[64,65],[64,65,66],[62,63,64,65,66,67],[62,63,64,65,66,67,68]] [[64,65,66,67],[64,65,66,67],[62,63],[62,63],[62,63],[62,63],[],[],[0]] J (Vx (Qa J J J) J ?_);refine Vx (Qj J J (ca2) J) J ?_;refine Wz [66,197,164,271,150,17,2,6,0] ?_;refine AL.weak (st':=(⟨134,[(3,.o (.c (.ptr 0 0))),(5,.o (.c (.ptr 4 0))),(6,B true),(9,B false),(70,.o (.ag (rR r))),(71,I m),(10,I m)],[.box (rR r),.row 1 (els r.Level.Rows),.row 1 (els r.Rows),.row 1 (els r.Keys),.box (rO r 1 2 3)]⟩:St)) (Gp [0,1,2,3,4] J (.c J (.c J (.c J (.c J (.c J (.cons (Xz hm2.symm) (.cons (Xz hm2.symm) (.nil))))))))) ?_;refine V6 (Kh J J (cc) J J J) J ?_;refine Wz [228,11,82,146,30] ?_;refine AL.weak (st':=(⟨134,[(3,.o (.c (.ptr 0 0))),(5,.o (.c (.ptr 4 0))),(6,B true),(9,B false),(10,I m),(11,.o (.c (.ptr 8 0))),(12,B true),(77,.o (.ag [sq r.Level.Rows])),(79,I r.Players),(81,I r.Seed),(83,I r.Every)],[.box (rR r),.row 1 (els r.Level.Rows),.row 1 (els r.Rows),.row 1 (els r.Keys),.box (rO r 1 2 3),.row 1 (els x.Level.Rows),.row 1 (els x.Rows),.row 1 (els x.Keys),.box (rO x 5 6 7)]⟩:St)) (Gs [0,1,2,3,4,5,6,7,8]) ?_;refine V6 (Kh J J (cn) J J J) J ?_;refine Wz [228,23] ?_
 refine AWP.pre (st':=(⟨134,[(3,.o (.c (.ptr 0 0))),(5,.o (.c (.ptr 4 0))),(6,B true),(9,B false),(10,I m),(11,.o (.c (.ptr 8 0))),(12,B true),(13,.o (.c (.ptr 12 0)))],[.box (rR r),.row 1 (els r.Level.Rows),.row 1 (els r.Rows),.row 1 (els r.Keys),.box (rO r 1 2 3),.row 1 (els x.Level.Rows),.row 1 (els x.Rows),.row 1 (els x.Keys),.box (rO x 5 6 7),.row 1 (els z.Level.Rows),.row 1 (els z.Rows),.row 1 (els z.Keys),.box (rO z 9 10 11)]⟩:St)) ?_ (Gs [0,1,2,3,4,5,6,7,8,9,10,11,12])
 refine Xh u8_67 [[],[],[89],[],[89,90,91],[88,89,90,91,92],[88,89,90,91,92,93],[87,88,89,90,91,92,93],[87,88,89,90,91,92,93],[],[15,87,88,89,90,91,92,93,94],[15,87,88,89,90,91,92,93,94,95]] [[15,89,90,91,92],[15,88,91],[15,88,91],[15,88,89,90],[15,88],[15],[15],[15,95],[15,94],[87,88,89,90,91,92,93,94,95],[95],[],[8]] J ?_;refine Wz [99,66,4] ?_;refine Vx (q_part0 J J J J J hq1) J ?_;refine Vx (Kh J J (cA) J J J) J ?_;refine Wz [185,122,122,184,17,170,23] ?_
 refine AWP.pre (st':=(⟨134,[(3,.o (.c (.ptr 0 0))),(5,.o (.c (.ptr 4 0))),(6,B true),(9,B false),(10,I m),(11,.o (.c (.ptr 8 0))),(12,B true),(15,.o (.c (.ptr 12 0))),(16,B true)],[.box (rR r),.row 1 (els r.Level.Rows),.row 1 (els r.Rows),.row 1 (els r.Keys),.box (rO r 1 2 3),.row 1 (els x.Level.Rows),.row 1 (els x.Rows),.row 1 (els x.Keys),.box (rO x 5 6 7),.row 1 (els x.Level.Rows),.row 1 (els x.Rows),.row 1 (els x.Keys),.box (rO x 9 10 11)]⟩:St)) ?_ (Gs [0,1,2,3,4,5,6,7,8,13,14,15,16])
 refine Xh u8_67 [[],[],[98],[],[98,99,100],[97,98,99,100,101],[97,98,99,100,101,102],[96,97,98,99,100,101,102],[96,97,98,99,100,101,102],[],[17,96,97,98,99,100,101,102,103],[17,96,97,98,99,100,101,102,103,104]] [[17,98,99,100,101],[17,97,100],[17,97,100],[17,97,98,99],[17,97],[17],[17],[17,104],[17,103],[96,97,98,99,100,101,102,103,104],[104],[],[8]] J ?_;refine Wz [99,66,4] ?_;refine Vx (q_part1 J J J J J hq1) J ?_;refine Vx (Kh J J (cB) J J J) J ?_;refine Wz [185,122,122,184,17,170,32,8,16,9,18,48,3,48,3] ?_;refine zx (Qj J J (cs1) J) J ?_;refine Wz [9,18,0,9,18,0,9,18,48,3,48,3] ?_;refine zx (Qj J J (cs2) J) J ?_;refine Wz [9,18,0,9,18,48,3,48,3] ?_;refine zx (Qj J J (cs1) J) J ?_;refine Wz [9,19] ?_
 exact Gq J (Gr [] J J J)
end
end Go.Proofs.YtpmacgnmlmmojaaGreatDoor
