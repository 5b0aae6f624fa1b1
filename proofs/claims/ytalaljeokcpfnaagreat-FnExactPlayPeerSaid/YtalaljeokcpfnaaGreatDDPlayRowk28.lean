/-
  Rules, data and contracts of functions: part 29 of the proof.
  Conditions: those that each theorem names.
-/
import Derived.Test.YtalaljeokcpfnaaGreatDDPlayRowk27
set_option linter.unusedSimpArgs false
set_option linter.unusedVariables false
set_option maxRecDepth 8000
set_option maxHeartbeats 8000000
namespace Go.Proofs.YtalaljeokcpfnaaGreat
section
open Tryz
open Go.RowKit

theorem mv_a {l:TLevel} {b:TBody} (h:b.Kind=0∧0<b.Life):mvOne l b=some (moveM l b).1:=by rw[mvOne,if_pos h]
theorem mv_n {l:TLevel} {b:TBody} (h:¬(b.Kind=0∧0<b.Life)) (h1:b.Kind=1) (h2:(moveM l b).2=true∨b.Timer-1=0):mvOne l b=none:=by rw[mvOne,if_neg h,if_pos h1,if_pos h2]
theorem mv_s {l:TLevel} {b:TBody} (h:¬(b.Kind=0∧0<b.Life)) (h1:b.Kind=1) (h2:¬((moveM l b).2=true∨b.Timer-1=0)):mvOne l b=some (tick1 (moveM l b).1):=by rw[mvOne,if_neg h,if_pos h1,if_neg h2]
theorem mv_k {l:TLevel} {b:TBody} (h:¬(b.Kind=0∧0<b.Life)) (h1:¬b.Kind=1):mvOne l b=some b:=by rw[mvOne,if_neg h,if_neg h1]
theorem mv_len {l:TLevel} {bs lf:List TBody} {k:Nat} (h:lf=(bs.take k).filterMap (mvOne l)):lf.length≤k:=by
 rw[h]
 have:=List.length_filterMap_le (mvOne l) (bs.take k)
 rw[Gq4] at this
 omega
theorem mv_some {l:TLevel} {bs lf:List TBody} {k:Nat} {b c:TBody} (h:lf=(bs.take k).filterMap (mvOne l)) (hb:bs[k]? = some b) (hm:mvOne l b=some c):lf ++ [c]=(bs.take (k+1)).filterMap (mvOne l):=by rw[mv_next hb,hm,←h]; rfl
theorem mv_none {l:TLevel} {bs lf:List TBody} {k:Nat} {b:TBody} (h:lf=(bs.take k).filterMap (mvOne l)) (hb:bs[k]? = some b) (hm:mvOne l b=none):lf=(bs.take (k+1)).filterMap (mvOne l):=by rw[mv_next hb,hm,←h]; simp
theorem rw6 {a b c d e:Ob} {t:List Ob} {k:Nat} {x y:List (List T)} (h:x=y):a::b::c::d::e::Ob.row k x::t=a::b::c::d::e::Ob.row k y::t:=by rw[h]
theorem I_stepMoves (w:TWorld) (hg:Enc.gd w.Level) (hl:levelOk w.Level=true) (hL:LM w.Level w.Scores.length w.Bodies) (htm:∀ b∈w.Bodies,0≤b.Timer∧b.Timer≤25):Co 241 [.box [Aqk 1,jn w.Tick,jn w.Seed,Aqk 2,Aqk 3],.row 1 (els w.Level.Rows),.row 1 (els w.Scores),.row 9 (els w.Bodies),.gh 0 (.c (.ptr 0 0))] [.c (.ptr 0 0)] [.box [Aqk 1,jn w.Tick,jn w.Seed,Aqk 2,Aqk 3],.row 1 (els w.Level.Rows),.row 1 (els w.Scores),.row 9 (els (mvM w.Level w.Bodies)),.gh 0 (.c (.ptr 0 0))] (.tu []):=by
 have hlb:=Y7 w.Bodies
 have hln:=hL.len
 refine Con.o func241 ntmps241 fun E=>?_;refine Wz [95,61,31,33,138,34] ?_
 refine AWP.pre ?_ (W_nil 2 9 J)
 refine Xj (fun m st=>∃ (k:Nat) (lf:List TBody),k+m=w.Bodies.length∧(lf=(w.Bodies.take k).filterMap (mvOne w.Level))∧st=(⟨_,[(0,Aqf 0),(2,Aqg 5),(10,Aqg 3),(11,I (els w.Bodies).length),(12,I k)],[.box [Aqk 1,jn w.Tick,jn w.Seed,Aqk 2,Aqk 3],.row 1 (els w.Level.Rows),.row 1 (els w.Scores),.row 9 (els w.Bodies),.gh 0 (.c (.ptr 0 0)),.row 9 (els lf)]⟩:St)) (w.Bodies.length) ⟨_,⟨0,[],Aqa,J,J⟩,Yj [0,1,2,3,4,5] Aqb⟩ ?_
 rintro m_A _ ⟨k,lf,hk_A,hp_A,rfl⟩
 have hll:=Y7 lf
 have hlk:=mv_len hp_A
 by_cases hlt:k<w.Bodies.length
 ·have hb0:decide ((k:Int)<(els w.Bodies).length)=true:=Gqb Aqa 
  obtain⟨b,hb⟩:=Ua hlt
  refine Wz [3,19,1,4,117,9,3,106] ?_
  have he:=Za hb
  with_reducible refine Xf ?_
  refine zx (Q6 J J J J Aqe J J) J ?_
  with_reducible refine K_alloc ?_
  refine M1 (Qx J J J) J J ?_
  with_reducible refine Xe ?_
  refine Wz [39] ?_;refine AWP.kp [0,1,4,7,11,0,12,0] [(2,Aqg 5),(10,Aqg 3)] 7 [(0,.box [Aqk 1,jn w.Tick,jn w.Seed,Aqk 2,Aqk 3]),(6,.box (Aqi b))] ?_
  clear he
  have hB:=(hL.at_ k b hb).1
  have ht:=htm b (Gqn hb)
  obtain⟨c,s,hcs⟩:∃ c s,(c,s)=moveM w.Level b:=⟨_,_,rfl⟩
  have cm:=I_MoveBody w.Level b hg hl hB.k hB.p hB.vx hB.vy
  have hct:(moveM w.Level b).1.Timer=b.Timer:=rfl
  have ma:=@mv_a w.Level b
  have mn:=@mv_n w.Level b
  have ms:=@mv_s w.Level b
  have mk:=@mv_k w.Level b
  rw[←hcs] at cm hct ma mn ms
  simp only at cm hct ma mn ms
  clear hcs hB
  by_cases hA:b.Kind=0∧0<b.Life
  ·have f1:decide (b.Kind=0)=true:=Gqb hA.1
   have f2:decide (0<b.Life)=true:=Gqb hA.2
   have hm:=mv_some hp_A hb (ma hA)
   refine Wz [4,34,18,20,71,111,46,8,117] ?_;refine AWP.kp [0,1,4,7,11,0,12,0] [(2,Aqg 5),(10,Aqg 3)] 7 [(0,.box [Aqk 1,jn w.Tick,jn w.Seed,Aqk 2,Aqk 3]),(6,.box (Aqi b))] ?_;refine Xi [[],[0],[0,1],[0,1,2],[],(u9 5),(u9 6),(u9 7),(u9 7),(u9 8)] (tt [[],[26,1],[26,2],[26,3],[],[26,5],[26,6],[25,7],[25,7],[25,8]]) [[30],[30],[30],[30],[26,27,28,29],[],[],[33],[32],[33],[8]] J ?_;refine Wz [17,128,145,136,136] ?_;refine Uq (Kr J J (cm) J J J) J ?_;refine Wz [229,166,166,12] ?_;refine AL.kp [0,1,4,7,11,0,12,0] [(2,Aqg 5),(32,.o (.ag (Aqi c))),(10,Aqg 3)] 7 [(0,.box [Aqk 1,jn w.Tick,jn w.Seed,Aqk 2,Aqk 3]),(6,.box (Aqi b))] ?_;refine Wz [47,53,194,85,116,122,26,53,104] ?_
   exact⟨w.Bodies.length-(k+1),Aqa,_,⟨k+1,lf ++ [c],Aqa,hm,J⟩,Bxk⟩
  by_cases hS:b.Kind=1
  ·have f3:decide (b.Kind=1)=true:=Gqb hS
   have f1:decide (b.Kind=0)=false:=Gqa Aqa 
   refine Wz [4,34,18,20,0,87,80,5,8,90,18,20,8,117,4] ?_;refine AWP.kp [0,1,4,7,11,0,12,0] [(2,Aqg 5),(10,Aqg 3)] 7 [(0,.box [Aqk 1,jn w.Tick,jn w.Seed,Aqk 2,Aqk 3]),(6,.box (Aqi b))] ?_;refine Xi u8_47 (tt [[],[39,1],[39,2],[39,3],[],[39,5],[39,6],[38,7],[38,7],[],[5,1,38,8],[5,1,38,9]]) [[5,43],[5,43],[5,43],[5,43],[5,39,40,41,42],[5],[5],[5,46],[5,45],(gg [38,9]),[46],[],[8]] J ?_;refine Wz [17,128,145,136,136] ?_;refine Uq (Kr J J (cm) J J J) J ?_;refine Wz [229,166,166,221,12] ?_;refine AL.kp [0,1,4,7,5,8,46,0,11,0,12,0] [(2,Aqg 5),(45,.o (.ag (Aqi c))),(10,Aqg 3)] 8 [(0,.box [Aqk 1,jn w.Tick,jn w.Seed,Aqk 2,Aqk 3]),(6,.box (Aqi b)),(7,.box [jn 0,jn 0,jn 0,jn 0,jn 0,jn 0,jn 0,jn 0,jn 0])] ?_
   with_reducible refine Xe ?_
   refine Qy J J J J J J J J J ?_
   with_reducible refine K_assign ?_
   refine Wz [8] ?_
   repeat (first | refine Qd ?_ | refine Qc ?_)
   with_reducible refine Xf ?_
   refine z4 J J J ?_
   with_reducible refine Xe ?_
   refine Wz [39] ?_;refine AWP.kp [0,1,4,7,6,0,11,0,12,0] [(2,Aqg 5),(10,Aqg 3)] 7 [(0,.box [Aqk 1,jn w.Tick,jn w.Seed,Aqk 2,Aqk 3]),(6,.box (Aqi c))] ?_
   rw[←hct] at ht
   cases s with
   |true =>
    have hm:=mv_none hp_A hb (mn hA hS (.inl rfl))
    refine Wz [18,29,52,10,87,80,83,190,273,191,256] ?_
    exact⟨w.Bodies.length-(k+1),Aqa,_,⟨k+1,lf,Aqa,hm,J⟩,Yj [0,1,2,3,4,5] Aqb⟩
   | false =>
    by_cases h1:c.Timer-1=0
    ·have f4:decide (c.Timer-1=0)=true:=Gqb h1
     have hm:=mv_none hp_A hb (mn hA hS (.inr (by rw[←hct]; exact h1)))
     refine Wz [18,29,52,11,71,20,5,32,190,273,191,256] ?_
     exact⟨w.Bodies.length-(k+1),Aqa,_,⟨k+1,lf,Aqa,hm,J⟩,Yj [0,1,2,3,4,5] Aqb⟩
    ·have f4:decide (c.Timer-1=0)=false:=Gqa h1
     have hm:=mv_some hp_A hb (ms hA hS (fun q=>q.elim (fun q=>Gx7 q) (fun q=>h1 (by rw[hct]; exact q))))
     refine Wz [18,29,52,11,71,20,5,151,194,85,116,122,26,53,104] ?_
     exact⟨w.Bodies.length-(k+1),Aqa,_,⟨k+1,lf ++ [tick1 c],Aqa,hm,J⟩,Bxk⟩
  ·have f3:decide (b.Kind=1)=false:=Gqa hS
   have hm:=mv_some hp_A hb (mk hA hS)
   by_cases hK:b.Kind=0
   ·have f1:decide (b.Kind=0)=true:=Gqb hK
    have f2:decide (0<b.Life)=false:=Gqa (fun q=>hA ⟨hK,q⟩)
    refine Wz [4,34,18,20,71,111,46,8,90,18,20,8,90,149,194,85,116,122,26,53,104] ?_
    exact⟨w.Bodies.length-(k+1),Aqa,_,⟨k+1,lf ++ [b],Aqa,hm,J⟩,Bxk⟩
   ·have f1:decide (b.Kind=0)=false:=Gqa hK
    refine Wz [4,34,18,20,0,87,80,5,8,90,18,20,8,90,149,194,85,116,122,26,53,104] ?_
    exact⟨w.Bodies.length-(k+1),Aqa,_,⟨k+1,lf ++ [b],Aqa,hm,J⟩,Bxk⟩
 ·have hb0:decide ((k:Int)<(els w.Bodies).length)=false:=Gqa Aqa 
  have hk:k=w.Bodies.length:=Aqa
  have hm:lf=mvM w.Level w.Bodies:=by rw[hp_A,hk,Gxs]; rfl
  subst hm
  refine Wz [3,19,1,4,90,30,27,0,61,121,53,220] ?_
  exact Xo J (Yh [0,1,2,5,4] Aqc J J J)
end
section
open Go.RowKit

section
variable {P:Program} {ops:Array Oper} {o:Oper} {st:St} {t:TypeId} {y z u:Operand} {rs qs:List Nat} {i j:Int} {m n:Nat} {k:IntKind}
theorem q_tl {p kk:Nat} {es:List (List T)} {e:TypeId} {zs:List Value} {by_:Nat} [hm:TyMake P t e zs by_] (ho:o.op = .slice t y (some u) none none) (hg:o.guard=none) (hy:st.ev y = .o (.c (.ref p))) (hp:st.objs[p]? = some (.row kk es)) (hu:st.ev u = .o (.c (.rd rs (.v (.int .i64 j))))) (hkz:kk=zs.length) (h0:0≤j∧j≤es.length):Qt P ops o st (.o (.c (.tl p kk j.toNat))) [] m :=
 .pure hg fun a w H F h1=>by
  obtain⟨v,fp,e1,e2⟩:=h1.ow hp
  obtain⟨x',fp',e3⟩:=h1.v1 hy
  rw[e1] at e3
  simp only[Pc.ow.injEq] at e3
  obtain⟨_,hv,_⟩:=e3
  obtain⟨A,c,hvA,hc⟩:∃ A c,v = .slice A es.length c∧es.length≤c:=by
   rcases e2.open_ with ⟨rfl,rfl,rfl⟩ | ⟨b,o,c,tid,cur,fz,val,fps,rfl,_,_,_,hc,_⟩
   ·exact⟨none,0,rfl,Gqi _⟩
   ·exact⟨_,c,rfl,hc⟩
  have hrun:=run_slice (P:=P) (w:=w) (t:=t) (e:=e) (zs:=zs) (by_:=by_) (A:=A) (m:=es.length) (c:=c) (some j) none j.toNat es.length ⟨h0.1,rfl⟩ rfl Aqa hc
  refine⟨.slice (if c=j.toNat then A else A.map (·.add (j.toNat*zs.length))) (es.length-j.toNat) (c-j.toNat),?_,?_⟩
  ·have hu1:=h1.plain hu
   have hvy:a.eval y = .slice A es.length c:=by rw[←hv,hvA]
   unfold execOp
   simp only[ho,Option.map_none,Gq1,hu1,hvy,Sem.run_bind]
   simp only[Option.map_none,Gq1] at hrun
   rw[hrun]
   rfl
  ·exact⟨A,_,es.length,c,_,_,by rw[e1,hvA],rfl,fun hlt=>by rw[if_neg Aqa,hkz]⟩
theorem tl_form {w:World} {H:Hs} {F:Nat→Prop} {a:Act} (h1:R0 w H F st a) {p kk q:Nat} {es:List (List T)} (hy:st.ev y = .o (.c (.tl p kk q))) (hp:st.objs[p]? = some (.row kk es)) :
  ∃ A A' c fp,H p = .ow (.sl kk es) (.slice A es.length c) fp∧a.eval y = .slice A' (es.length-q) (c-q)∧(q<es.length→A'=A.map (·.add (q*kk)))∧OW w (.sl kk es) (.slice A es.length c) fp∧es.length≤c:=by
 obtain⟨v,fp,e1,e2⟩:=h1.ow hp
 obtain⟨A,A',m,c,x,fp',e3,hv,hA⟩:=h1.v1 hy
 rw[e1] at e3
 simp only[Pc.ow.injEq] at e3
 obtain⟨rfl,rfl,rfl⟩:=e3
 have hm:m=es.length∧es.length≤c:=by
  rcases e2.open_ with ⟨h,rfl,rfl⟩ | ⟨b,o,c',tid,cur,fz,val,fps,h,_,_,_,hc,_⟩
  ·cases h; exact⟨rfl,Gqi _⟩
  ·cases h; exact⟨rfl,hc⟩
 obtain⟨rfl,hc⟩:=hm
 exact⟨A,A',c,fp,e1,hv,hA,e2,hc⟩
theorem q_lentl {p kk q:Nat} {es:List (List T)} {e:TypeId} {zs:List Value} {by_:Nat} [hm:TyMake P t e zs by_] (ho:o.op = .call { callee := .builtin .len,args:=#[y],argTypes:=#[t] }) (hg:o.guard=none) (hy:st.ev y = .o (.c (.tl p kk q))) (hp:st.objs[p]? = some (.row kk es)):Qt P ops o st (I ((es.length-q:Nat):Int)) [] n :=
 .pure hg fun a w H F hr=>⟨.int .i64 ((es.length-q:Nat):Int),by
  obtain⟨A,A',c,fp,_,hv,_⟩:=tl_form hr hy hp
  exact len_run ho hv,plainV _ J⟩
theorem q_attl {p kk q:Nat} {es:List (List T)} {et:TypeId} {zs:List Value} {by_:Nat} [hm:TyMake P t et zs by_] (ho:o.op = .indexAddr t y z) (hg:o.guard=none) (hy:st.ev y = .o (.c (.tl p kk q))) (hz:st.ev z = .o (.c (.rd qs (.v (.int k i))))) (hp:st.objs[p]? = some (.row kk es)) (hkz:kk=zs.length) (h0:0≤i) (hi:q+i<es.length) :
  Qt P ops o st (.o (.c (.el p kk (q+i.toNat) 0))) [] n :=
 .pure hg fun a w H F hr=>by
  obtain⟨A,A',c,fp,e1,hv,hA,e2,hc⟩:=tl_form hr hy hp
  have h2:=hr.plain hz
  have hx:es[q+i.toNat]? = some es[q+i.toNat]:=Gqg Aqa 
  obtain⟨b,o',c',h1,_⟩:=RO.at_ e2.ro hx
  cases h1
  have hA2:=hA Aqa 
  simp only[Gq1] at hA2
  refine⟨.pointer (some ⟨b,o'+q*kk+i.toNat*zs.length,none⟩),?_,b,o',es.length,c,.sl kk es,fp,e1,by rw[←hkz,Nat.add_mul]; simp[Gxx]⟩
  rw[hA2] at hv
  have hv2:a.eval y = .slice (some ⟨b,o'+q*kk,none⟩) (es.length-q) (c-q):=by rw[hv]; simp[Addr.add]
  simp only[execOp,ho,hv2,h2,Sem.run_bind,Vz (P:=P) (w:=w) t b (o'+q*kk) (es.length-q) (c-q) k i h0 Aqa,Result.andThen_ok]
  rfl
end
end
section
open Tryz
open Go.RowKit

theorem st_el {bs:List TBody} {i j:Nat} {p p':TBody} {ts:List T} (h:splice (Enc.e p) j ts=Enc.e p'):els (bs.set i p')=(els (bs.set i p)).set i (splice (Enc.e p) j ts):=by
 rw[h,els,els,←List.map_set,List.set_set]
theorem st_el0 {bs:List TBody} {i j:Nat} {p p':TBody} {ts:List T} (h:splice (Enc.e p) j ts=Enc.e p'):els (bs.set i p')=(els bs).set i (splice (Enc.e p) j ts):=by
 rw[h,els,els,←List.map_set]
def lifeM (p:TBody):TBody:=⟨p.Kind,p.Owner,p.X,p.Y,p.VX,p.VY,p.Aim,p.Life-1,p.Timer⟩
def stopX (p:TBody):TBody:=⟨p.Kind,p.Owner,p.X,p.Y,0,p.VY,p.Aim,p.Life-1,p.Timer⟩
def stopY (p:TBody):TBody:=⟨p.Kind,p.Owner,p.X,p.Y,0,0,p.Aim,p.Life-1,p.Timer⟩
def downM (p:TBody):TBody:=⟨p.Kind,p.Owner,p.X,p.Y,0,0,p.Aim,p.Life-1,20⟩
theorem hit_alive {p:TBody} (h:¬p.Life-1=0):hitB p=lifeM p:=by simp only[hitB,lifeM,if_neg h]
theorem hit_down {p:TBody} (h:p.Life-1=0):hitB p=downM p:=by simp only[hitB,downM,if_pos h]
theorem met_I {bs:List TBody} {b:TBody} {o:Int} {n k:Nat} (h:metF bs b o n=some k):metI bs b o n=k:=by rw[metI,h]
theorem met_no {bs:List TBody} {b:TBody} {o:Int} {n:Nat} (h:metF bs b o n=none):metI bs b o n = -1:=by rw[metI,h]
theorem tl_el {bs:List TBody} {ss:List Int} {k:Nat} {b:TBody} (h:bs[ss.length+k]? = some b):(els bs)[(els ss).length+(k:Int).toNat]? = some (Enc.e b):=by
 rw[Y7,Int.toNat_natCast,els,Gqk,h]; rfl
theorem tk_app {bs lf:List TBody} {n m:Nat} (h:m=n):els (bs.take n++lf)=(els bs).take m++els lf:=by rw[h,Y3,Zd]
theorem els_pl9 (bs:List TBody):plainT (els bs):=fun e he t ht=>by
 obtain⟨x,_,rfl⟩:=Gqv.1 he
 simp only[Enc.e] at ht
 revert ht
 simp only[List.mem_cons,Gx3,or_false]
 rintro (rfl | rfl | rfl | rfl | rfl | rfl | rfl | rfl | rfl) <;> exact⟨_,rfl⟩
theorem els_k9 (bs:List TBody):∀ e∈els bs,e.length=9:=fun e he=>by
 obtain⟨x,_,rfl⟩:=Gqv.1 he
 rfl
theorem I_stepShots (w:TWorld) (hg:Enc.gd w.Level) (hl:levelOk w.Level=true) (hn4:1≤w.Scores.length∧w.Scores.length≤4) (hL:LM w.Level w.Scores.length w.Bodies) (hsc:∀ x∈w.Scores,0≤x∧x≤1000000):Co 242 [.box [Aqk 1,jn w.Tick,jn w.Seed,Aqk 2,Aqk 3],.row 1 (els w.Level.Rows),.row 1 (els w.Scores),.row 9 (els w.Bodies),.gh 0 (.c (.ptr 0 0))] [.c (.ptr 0 0)] [.box [Aqk 1,jn w.Tick,jn w.Seed,Aqk 2,Aqk 3],.row 1 (els w.Level.Rows),.row 1 (els (shS w.Scores.length (w.Bodies.drop w.Scores.length) (w.Bodies,w.Scores) (w.Bodies.drop w.Scores.length).length).2),.row 9 (els ((shS w.Scores.length (w.Bodies.drop w.Scores.length) (w.Bodies,w.Scores) (w.Bodies.drop w.Scores.length).length).1.take w.Scores.length++shL w.Scores.length (w.Bodies.drop w.Scores.length) (w.Bodies,w.Scores) (w.Bodies.drop w.Scores.length).length)),.gh 0 (.c (.ptr 0 0))] (.tu []):=by
 have hlb:=Y7 w.Bodies
 have hls:=Y7 w.Scores
 have hln:=hL.len
 have hT:(w.Bodies.drop w.Scores.length).length=w.Bodies.length-w.Scores.length:=Gq9
 refine Con.o func242 ntmps242 fun E=>?_;refine Wz [23,4,4] ?_
 refine AWP.pre ?_ (W_nil 2 9 J)
 refine Xi u8_48 (tt [[],[7,1],[7,2],[7,3],[],[11,1],[11,2],[11,3],[11,4],[7,9],[7,10],[]]) (tt [[11,5,18,1],[11,5,18,1],[11,5,18,1],[11,5,18,1],[7,4,18,1],[7,4,18,1],[7,4,18,1],[7,4,18,1],[7,4,18,1],[18,1],[18,1],[7,11],[0,1]]) J ?_;refine Wz [17,128,67,128,37] ?_;refine Uq (Vc J J J J) J (Uq (q_tl J J J J J J Aqa) J (Uq (q_lentl J J J J) J ?_));refine Wz [17,12,1,34] ?_;refine AWP.kp [0,1,17,0,18,0] [(2,Aqg 5),(16,.o (.c (.tl 3 9 (els w.Scores).length)))] 6 [(0,.box [Aqk 1,jn w.Tick,jn w.Seed,Aqk 2,Aqk 3])] ?_;refine Xj (fun m__ st=>∃ (k:Nat) (bs:List TBody) (ss:List Int) (lf:List TBody),(w.Bodies.drop w.Scores.length).length-k=m__∧(k≤(w.Bodies.drop w.Scores.length).length∧(bs,ss)=shS w.Scores.length (w.Bodies.drop w.Scores.length) (w.Bodies,w.Scores) k∧lf=shL w.Scores.length (w.Bodies.drop w.Scores.length) (w.Bodies,w.Scores) k)∧st=(⟨_,[(0,Aqf 0),(2,Aqg 5),(16,.o (.c (.tl 3 9 (els w.Scores).length))),(17,I (((els w.Bodies).length-(els w.Scores).length:Nat):Int)),(18,I k)],[.box [Aqk 1,jn w.Tick,jn w.Seed,Aqk 2,Aqk 3],.row 1 (els w.Level.Rows),.row 1 (els ss),.row 9 (els bs),.gh 0 (.c (.ptr 0 0)),.row 9 (els lf)]⟩:St)) _ ⟨_,⟨0,w.Bodies,w.Scores,[],J,⟨Aqa,J,J⟩,J⟩,Yj [0,1,2,3,4,5] Aqb⟩ ?_
 rintro m_A _ ⟨k,bs,ss,lf,hk_A,hp_A,rfl⟩
 obtain⟨hk,hs,hlf⟩:=hp_A
 have hS:=(SI.start hL rfl hsc).all (w.Bodies.drop w.Scores.length) k
 rw[←hs] at hS
 obtain⟨hSL,hSn,hSt,hSs,hSc⟩:=hS
 simp only at hSL hSn hSt hSs hSc
 have hll:=Y7 lf
 have hlk:lf.length≤k:=by rw[hlf]; exact shL_le k
 have hlbs:=Y7 bs
 have hlss:=Y7 ss
 by_cases hlt:k<(w.Bodies.drop w.Scores.length).length
 ·have hb0:decide ((k:Int)<(((els w.Bodies).length-(els w.Scores).length:Nat):Int))=true:=Gqb Aqa 
  obtain⟨b,hb⟩:=Ua hlt
  have hbb:bs[w.Scores.length+k]? = some b:=Bx3
  have hB:=(hSL.at_ _ b hbb).1
  have hpl:=(hB.placed hl).1
  refine Wz [3,19,1,4,117,9,3] ?_;refine zx (q_attl J J J J J J Aqa Aqa) J ?_
  have he:=tl_el hbb
  with_reducible refine Xf ?_
  refine zx (Q6 J J J J Aqe J J) J ?_
  with_reducible refine K_alloc ?_
  refine M1 (Qx J J J) J J ?_
  with_reducible refine Xe ?_
  refine Wz [39] ?_;refine AWP.kp [0,1,17,0,18,0,4,7] [(2,Aqg 5),(16,.o (.c (.tl 3 9 (els w.Scores).length)))] 7 [(0,.box [Aqk 1,jn w.Tick,jn w.Seed,Aqk 2,Aqk 3]),(6,.box (Aqi b))] ?_
  clear he
  by_cases hK:b.Kind=1
  case neg =>
   have f1:decide (b.Kind≠1)=true:=Gqb hK
   obtain⟨n1,n2,_⟩:=sh_skip hb hK hs hlf
   refine Wz [4,18,22,32,11,85,116,122,8,190,191,256] ?_
   refine⟨_, Aqa,_,⟨k+1,bs,ss,lf ++ [b],J,⟨Aqa,n1,n2⟩,J⟩,Bxk⟩
  have f1:decide (b.Kind≠1)=false:=Gqa (fun q=>q hK)
  have cm:=I_playerMet ⟨w.Level,w.Tick,w.Seed,ss,bs⟩ b b.Owner Bxo Bxo (fun j p _ h=>((hSL.at_ j p h).1.placed hl).1) hpl
  simp only[hSs] at cm
  refine Wz [4,18,22,97,85,31] ?_;refine Xd (lo := [_,_,_,_]) (gs := [(0,.c (.ptr 0 0)),(6,.c (Aqk 3))]) (lo' := [_,_,_,_]) (new := []) [0,1,2,3] [(0,0,.ptr 0 0),(1,0,Aqk 3)] (cm) J J J J J J J J J J J J J J J J J ?_;refine Wz [40,58] ?_;refine AWP.kp [0,1,17,0,18,0,4,7,5,0,35,0] [(2,Aqg 5),(16,.o (.c (.tl 3 9 (els w.Scores).length)))] 7 [(0,.box [Aqk 1,jn w.Tick,jn w.Seed,Aqk 2,Aqk 3]),(6,.box (Aqi b))] ?_
  cases hm:metF bs b b.Owner w.Scores.length with
  |none =>
   obtain⟨mi,hmi⟩:∃ mi:Int,metI bs b b.Owner w.Scores.length=mi:=⟨_,rfl⟩
   rw[hmi]
   rw[met_no hm] at hmi
   have f2:decide (mi<0)=true:=Gqb Aqa 
   rw[f2]
   obtain⟨n1,n2,_⟩:=sh_miss hb hm hs hlf
   refine Wz [117,11,85,116,122,8,190,191,256] ?_
   refine⟨_, Aqa,_,⟨k+1,bs,ss,lf ++ [b],J,⟨Aqa,n1,n2⟩,J⟩,Bxk⟩
  | some j =>
   rw[met_I hm]
   have f2:decide ((j:Int)<0)=false:=Gqa Aqa 
   obtain⟨hj,hc⟩:=metF_lt hm
   obtain⟨p,hp,hpl,_,_⟩:=metC_life hc
   have hpB:=(hSL.at_ j p hp).1.f
   have hjl:=Zj hp
   obtain⟨n1,n2,_⟩:=sh_hit hb hK hm hp hs hlf
   have he:=Za hp
   refine Wz [90,42,11,61,68,106,44,248,123,146,29,248,123,170,113,248,123] ?_;refine AL.weak (st':=(⟨_,[(0,Aqf 0),(2,Aqg 5),(16,.o (.c (.tl 3 9 (els w.Scores).length))),(17,I (((els w.Bodies).length-(els w.Scores).length:Nat):Int)),(18,I k),(4,Aqf 6),(6,.o (.c (.el 3 9 j 0))),(55,.o (.c (.el 3 9 j 7)))],[.box [Aqk 1,jn w.Tick,jn w.Seed,Aqk 2,Aqk 3],.row 1 (els w.Level.Rows),.row 1 (els ss),.row 9 (els (bs.set j (lifeM p))),.gh 0 (.c (.ptr 0 0)),.row 9 (els lf),.box (Aqi b)]⟩:St)) (Yk [0,1,2,3,4,5,6] Aqc J ((by exact rwBo (st_el0 J))) (.c J (.c J (.c J (.c J (.c J (.c J (.c J (.c J (.nil)))))))))) ?_
   clear he
   have he:(els (bs.set j (lifeM p)))[(j:Int).toNat]? = some (Enc.e (lifeM p)):=Za (by rw[Gxg hjl])
   by_cases hz:p.Life-1=0
   case neg =>
    have f3:decide (p.Life-1=0)=false:=Gqa hz
    rw[hit_alive hz,if_neg hz] at n1
    refine Wz [146,20,151,104] ?_
    refine⟨_, Aqa,_,⟨k+1,bs.set j (lifeM p),ss,lf,J,⟨Aqa,n1,n2⟩,J⟩,Yj [0,1,2,3,4,5] Aqb⟩
   have f3:decide (p.Life-1=0)=true:=Gqb hz
   rw[hit_down hz,if_pos hz] at n1
   have ho:=hB.o
   obtain⟨q,hq⟩:∃ q:Nat,b.Owner=q:=⟨b.Owner.toNat,Aqa⟩
   obtain⟨s,hs1⟩:=Ua (xs:=ss) (i:=q) Aqa 
   have cp:=I_addScore ⟨w.Level,w.Tick,w.Seed,ss,bs.set j (lifeM p)⟩ q s hs1 (hSc s (Gqn hs1))
   simp only[←hq] at cp
   rw[hq,Int.toNat_natCast] at n1
   refine Wz [146,20,32,11,31] ?_;refine Xd (lo := [_,_,_,_]) (gs := [(0,.c (.ptr 0 0)),(5,.c (Aqk 3))]) (lo' := [_,_,_,_]) (new := []) [0,1,2,3] [(0,0,.ptr 0 0),(1,0,Aqk 3)] (cp) J J J J J J J J J J J J J J J J J ?_;refine Wz [113,248,123,170,113,248,123] ?_;refine AL.weak (st':=(⟨_,[(0,Aqf 0),(2,Aqg 5),(16,.o (.c (.tl 3 9 (els w.Scores).length))),(17,I (((els w.Bodies).length-(els w.Scores).length:Nat):Int)),(18,I k),(4,Aqf 6),(6,.o (.c (.el 3 9 j 0))),(67,.o (.c (.el 3 9 j 5)))],[.box [Aqk 1,jn w.Tick,jn w.Seed,Aqk 2,Aqk 3],.row 1 (els w.Level.Rows),.row 1 (els (addM ss q)),.row 9 (els (bs.set j (stopX p))),.gh 0 (.c (.ptr 0 0)),.row 9 (els lf),.box (Aqi b)]⟩:St)) (Yk [0,1,2,3,4,5,6] Aqc J (Bxt) (.c J (.c J (.c J (.c J (.c J (.c J (.c J (.c J (.nil)))))))))) ?_
   clear he
   have he:(els (bs.set j (stopX p)))[(j:Int).toNat]? = some (Enc.e (stopX p)):=Za (by rw[Gxg hjl])
   refine Wz [170,1,27,248,123] ?_;refine AL.weak (st':=(⟨_,[(0,Aqf 0),(2,Aqg 5),(16,.o (.c (.tl 3 9 (els w.Scores).length))),(17,I (((els w.Bodies).length-(els w.Scores).length:Nat):Int)),(18,I k),(4,Aqf 6),(6,.o (.c (.el 3 9 j 0))),(70,.o (.c (.el 3 9 j 8)))],[.box [Aqk 1,jn w.Tick,jn w.Seed,Aqk 2,Aqk 3],.row 1 (els w.Level.Rows),.row 1 (els (addM ss q)),.row 9 (els (bs.set j (stopY p))),.gh 0 (.c (.ptr 0 0)),.row 9 (els lf),.box (Aqi b)]⟩:St)) (Yk [0,1,2,3,4,5,6] Aqc J (Bxt) (.c J (.c J (.c J (.c J (.c J (.c J (.c J (.c J (.nil)))))))))) ?_
   clear he
   have he:(els (bs.set j (stopY p)))[(j:Int).toNat]? = some (Enc.e (stopY p)):=Za (by rw[Gxg hjl])
   refine Wz [170,53,104] ?_
   refine⟨_, Aqa,(fun (k:Nat) (bs:List TBody) (ss:List Int) (lf:List TBody)=>(⟨_,[(0,Aqf 0),(2,Aqg 5),(16,.o (.c (.tl 3 9 (els w.Scores).length))),(17,I (((els w.Bodies).length-(els w.Scores).length:Nat):Int)),(18,I k)],[.box [Aqk 1,jn w.Tick,jn w.Seed,Aqk 2,Aqk 3],.row 1 (els w.Level.Rows),.row 1 (els ss),.row 9 (els bs),.gh 0 (.c (.ptr 0 0)),.row 9 (els lf)]⟩:St)) (k+1) (bs.set j (downM p)) (addM ss q) (lf),⟨k+1,bs.set j (downM p),addM ss q,lf,J,⟨Aqa,n1,n2⟩,J⟩,Yk [0,1,2,3,4,5] Aqc J (Bxt) (.c J (.c J (.c J (.c J (.c J (.nil))))))⟩
 ·have hb0:decide ((k:Int)<(((els w.Bodies).length-(els w.Scores).length:Nat):Int))=false:=Gqa Aqa 
  have hk:k=(w.Bodies.drop w.Scores.length).length:=Aqa
  rw[hk] at hs hlf
  rw[←hs,←hlf]
  have hq:((els ss).length:Int).toNat=w.Scores.length:=Aqa
  have hpl:=els_pl9 lf
  have hkk:=els_k9 lf
  refine Wz [3,19,1,4,90,30] ?_;refine Xi u8_49 (tt [[],[],[73,1],[73,2],[73,3],[],[77,1],[77,2],[77,3],[77,4],[73,9],[],[73,11],[72,13],[72,14],[72,15]]) (tt [[73,12],[72,1,77,5,83,1],[72,1,77,5,83,1],[72,1,77,5,83,1],[72,1,77,5,83,1],[72,5,83,1],[72,5,83,1],[72,5,83,1],[72,5,83,1],[72,5,83,1],[72,1,83,1],[72,11],[72,1],[],[],[],[0,2]]) J ?_;refine Wz [35,128,67,128,37] ?_;refine Uq (Vc J J J J) J (Uq (q_hd J J J J J J Aqa) J ?_);refine Wz [17,12] ?_
  refine AL.weak (Wk.head (p:=3) (els ss).length J Aqa (by repeat' (first | exact trivial | exact rfl | refine And.intro ?_ ?_)) (by repeat' (first | exact trivial | exact rfl | refine And.intro ?_ ?_))) ?_
  have ht2:((els bs).take (els ss).length).length=w.Scores.length:=Bxp
  refine AL.kp [72,1] [(82,Aqg 3),(83,Aqg 5)] 6 [(0,.box [Aqk 1,jn w.Tick,jn w.Seed,Aqk 2,.un])] ?_;refine M_app J J J J J J J J J J hpl hkk Aqa Aqa  ?_;refine Wz [61,121,53,220] ?_
  exact Xo J (Yh [0,1,2,3,4] Aqc J (by exact rwBo (tk_app hq)) J)
theorem I_stepItems (w:TWorld) (hg:Enc.gd w.Level) (hl:levelOk w.Level=true) (hn4:1≤w.Scores.length∧w.Scores.length≤4) (hL:LM w.Level w.Scores.length w.Bodies) (hsc:∀ x∈w.Scores,0≤x∧x≤1000000):Co 243 [.box [Aqk 1,jn w.Tick,jn w.Seed,Aqk 2,Aqk 3],.row 1 (els w.Level.Rows),.row 1 (els w.Scores),.row 9 (els w.Bodies),.gh 0 (.c (.ptr 0 0))] [.c (.ptr 0 0)] [.box [Aqk 1,jn w.Tick,jn w.Seed,Aqk 2,Aqk 3],.row 1 (els w.Level.Rows),.row 1 (els (itS w.Scores.length w.Bodies (w.Bodies.drop w.Scores.length) w.Scores (w.Bodies.drop w.Scores.length).length)),.row 9 (els (w.Bodies.take w.Scores.length++itL w.Scores.length w.Bodies (w.Bodies.drop w.Scores.length) (w.Bodies.drop w.Scores.length).length)),.gh 0 (.c (.ptr 0 0))] (.tu []):=by
 have hlb:=Y7 w.Bodies
 have hls:=Y7 w.Scores
 have hln:=hL.len
 have hT:(w.Bodies.drop w.Scores.length).length=w.Bodies.length-w.Scores.length:=Gq9
 refine Con.o func243 ntmps243 fun E=>?_;refine Wz [23,4,4] ?_
 refine AWP.pre ?_ (W_nil 2 9 J)
 refine Xi u8_48 (tt [[],[6,1],[6,2],[6,3],[],[10,1],[10,2],[10,3],[10,4],[6,9],[6,10],[]]) (tt [[10,5,17,1],[10,5,17,1],[10,5,17,1],[10,5,17,1],[6,4,17,1],[6,4,17,1],[6,4,17,1],[6,4,17,1],[6,4,17,1],[17,1],[17,1],[6,11],[0,1]]) J ?_;refine Wz [17,128,67,128,37] ?_;refine Uq (Vc J J J J) J (Uq (q_tl J J J J J J Aqa) J (Uq (q_lentl J J J J) J ?_));refine Wz [17,12,1,34] ?_;refine AWP.kp [0,1,16,0,17,0] [(2,Aqg 5),(15,.o (.c (.tl 3 9 (els w.Scores).length)))] 6 [(0,.box [Aqk 1,jn w.Tick,jn w.Seed,Aqk 2,Aqk 3])] ?_;refine Xj (fun m__ st=>∃ (k:Nat) (ss:List Int) (lf:List TBody),(w.Bodies.drop w.Scores.length).length-k=m__∧(k≤(w.Bodies.drop w.Scores.length).length∧ss=itS w.Scores.length w.Bodies (w.Bodies.drop w.Scores.length) w.Scores k∧lf=itL w.Scores.length w.Bodies (w.Bodies.drop w.Scores.length) k)∧st=(⟨_,[(0,Aqf 0),(2,Aqg 5),(15,.o (.c (.tl 3 9 (els w.Scores).length))),(16,I (((els w.Bodies).length-(els w.Scores).length:Nat):Int)),(17,I k)],[.box [Aqk 1,jn w.Tick,jn w.Seed,Aqk 2,Aqk 3],.row 1 (els w.Level.Rows),.row 1 (els ss),.row 9 (els w.Bodies),.gh 0 (.c (.ptr 0 0)),.row 9 (els lf)]⟩:St)) _ ⟨_,⟨0,w.Scores,[],J,⟨Aqa,J,J⟩,J⟩,Yj [0,1,2,3,4,5] Aqb⟩ ?_
 rintro m_A _ ⟨k,ss,lf,hk_A,hp_A,rfl⟩
 obtain⟨hk,hs,hlf⟩:=hp_A
 have hSs:ss.length=w.Scores.length:=by rw[hs]; exact (itS_ok rfl hsc).1
 have hSc:∀ x∈ss,0≤x∧x≤1000000:=by rw[hs]; exact (itS_ok rfl hsc).2
 have hll:=Y7 lf
 have hlk:lf.length≤k:=by rw[hlf]; exact itL_le
 have hlss:=Y7 ss
 by_cases hlt:k<(w.Bodies.drop w.Scores.length).length
 ·have hb0:decide ((k:Int)<(((els w.Bodies).length-(els w.Scores).length:Nat):Int))=true:=Gqb Aqa 
  obtain⟨b,hb⟩:=Ua hlt
  have hbb:w.Bodies[w.Scores.length+k]? = some b:=by rw[←Gq7]; exact hb
  have hB:=(hL.at_ _ b hbb).1
  have hpl:=(hB.placed hl).1
  refine Wz [3,19,1,4,117,9,3] ?_;refine zx (q_attl J J J J J J Aqa Aqa) J ?_
  have he:=tl_el hbb
  with_reducible refine Xf ?_
  refine zx (Q6 J J J J Aqe J J) J ?_
  with_reducible refine K_alloc ?_
  refine M1 (Qx J J J) J J ?_
  with_reducible refine Xe ?_
  refine Wz [39] ?_;refine AWP.kp [0,1,16,0,17,0,4,7] [(2,Aqg 5),(15,.o (.c (.tl 3 9 (els w.Scores).length)))] 7 [(0,.box [Aqk 1,jn w.Tick,jn w.Seed,Aqk 2,Aqk 3]),(6,.box (Aqi b))] ?_
  clear he
  by_cases hK:b.Kind=2
  case neg =>
   have f1:decide (b.Kind=2)=false:=Gqa hK
   obtain⟨n1,n2,_⟩:=it_skip hb hK hs hlf
   refine Wz [4,18,20,28,27,85,116,122,26,53,104] ?_
   refine⟨_, Aqa,_,⟨k+1,ss,lf ++ [b],J,⟨Aqa,n1,n2⟩,J⟩,Bxk⟩
  have f1:decide (b.Kind=2)=true:=Gqb hK
  have cm:=I_playerMet ⟨w.Level,w.Tick,w.Seed,ss,w.Bodies⟩ b (-1) Bxo Bxo (fun j p _ h=>((hL.at_ j p h).1.placed hl).1) hpl
  simp only[hSs] at cm
  refine Wz [4,18,20,32,11,85] ?_;refine Xd (lo := [_,_,_,_]) (gs := [(0,.c (.ptr 0 0)),(6,.c (Aqk 3))]) (lo' := [_,_,_,_]) (new := []) [0,1,2,3] [(0,0,.ptr 0 0),(1,0,Aqk 3)] (cm) J J J J J J J J J J J J J J J J J ?_;refine Wz [44,224,1] ?_;refine AWP.kp [0,1,16,0,17,0,4,7,5,0,28,0] [(2,Aqg 5),(15,.o (.c (.tl 3 9 (els w.Scores).length)))] 7 [(0,.box [Aqk 1,jn w.Tick,jn w.Seed,Aqk 2,Aqk 3]),(6,.box (Aqi b))] ?_
  cases hm:metF w.Bodies b (-1) w.Scores.length with
  |none =>
   obtain⟨mi,hmi⟩:∃ mi:Int,metI w.Bodies b (-1) w.Scores.length=mi:=⟨_,rfl⟩
   rw[hmi]
   rw[met_no hm] at hmi
   have f2:decide (mi≥0)=false:=Gqa Aqa 
   rw[f2]
   obtain⟨n1,n2,_⟩:=it_miss hb hm hs hlf
   refine Wz [90,42,27,85,116,122,26,53,104] ?_
   refine⟨_, Aqa,_,⟨k+1,ss,lf ++ [b],J,⟨Aqa,n1,n2⟩,J⟩,Bxk⟩
  |some j =>
   rw[met_I hm]
   have f2:decide ((j:Int)≥0)=true:=Gqb Aqa 
   obtain⟨hj,hc⟩:=metF_lt hm
   obtain⟨s,hs1⟩:=Ua (xs:=ss) (i:=j) Aqa 
   have cp:=I_addScore ⟨w.Level,w.Tick,w.Seed,ss,w.Bodies⟩ j s hs1 (hSc s (Gqn hs1))
   simp only at cp
   obtain⟨n1,n2,_⟩:=it_hit hb hK hm hs hlf
   refine Wz [117,10] ?_;refine Xd (lo := [_,_,_,_]) (gs := [(0,.c (.ptr 0 0)),(5,.c (Aqk 3))]) (lo' := [_,_,_,_]) (new := []) [0,1,2,3] [(0,0,.ptr 0 0),(1,0,Aqk 3)] (cp) J J J J J J J J J J J J J J J J J ?_;refine Wz [1,190,191,256] ?_
   refine⟨_, Aqa,_,⟨k+1,addM ss j,lf,J,⟨Aqa,n1,n2⟩,J⟩,Yj [0,1,2,3,4,5] Aqb⟩
 ·have hb0:decide ((k:Int)<(((els w.Bodies).length-(els w.Scores).length:Nat):Int))=false:=Gqa Aqa 
  have hk:k=(w.Bodies.drop w.Scores.length).length:=Aqa
  rw[hk] at hs hlf
  rw[←hs,←hlf]
  have hq:((els ss).length:Int).toNat=w.Scores.length:=Aqa
  have hpl:=els_pl9 lf
  have hkk:=els_k9 lf
  refine Wz [3,19,1,4,90,30] ?_;refine Xi u8_49 (tt [[],[],[38,1],[38,2],[38,3],[],[42,1],[42,2],[42,3],[42,4],[38,9],[],[38,11],[37,13],[37,14],[37,15]]) (tt [[38,12],[37,1,42,5,48,1],[37,1,42,5,48,1],[37,1,42,5,48,1],[37,1,42,5,48,1],[37,5,48,1],[37,5,48,1],[37,5,48,1],[37,5,48,1],[37,5,48,1],[37,1,48,1],[37,11],[37,1],[],[],[],[0,2]]) J ?_;refine Wz [35,128,67,128,37] ?_;refine Uq (Vc J J J J) J (Uq (q_hd J J J J J J Aqa) J ?_);refine Wz [17,12] ?_
  refine AL.weak (Wk.head (p:=3) (els ss).length J Aqa (by repeat' (first | exact trivial | exact rfl | refine And.intro ?_ ?_)) (by repeat' (first | exact trivial | exact rfl | refine And.intro ?_ ?_))) ?_
  have ht2:((els w.Bodies).take (els ss).length).length=w.Scores.length:=Bxp
  refine AL.kp [37,1] [(47,Aqg 3),(48,Aqg 5)] 6 [(0,.box [Aqk 1,jn w.Tick,jn w.Seed,Aqk 2,.un])] ?_;refine M_app J J J J J J J J J J hpl hkk Aqa Aqa  ?_;refine Wz [61,121,53,220] ?_
  exact Xo J (Yh [0,1,2,3,4] Aqc J (by exact rwBo (tk_app hq)) J)
end
section
open Go.RowKit

section
variable {P:Program} {w:World}
theorem run_copy_src (t tx ty e:TypeId) (i:TypeInfo) (ht:P.underlying t=some (.slice e)) (hi:P.info? e=some i) (b o c n:Nat) (x:Value) (news:List Value) (hs:Src P i.size tx x n news w) (hc:∀ j,j<news.length→(w.cell? ⟨b,o+j,none⟩).isSome=true) (hf:∀ j,j<news.length→w.frozen? ⟨b,o+j,none⟩=false) :
  (Builtin.copy_ #[t,tx] ty #[.slice (some ⟨b,o,none⟩) n c,x]).run P w = .ok (.int .i64 n) (w.setCells b o news):=by
 have hst:=run_storeCells_cells (P:=P) b o news 0 w (by simpa using hc) (by simpa using hf) hs.one
 simp only[Gx5] at hst
 simp[Builtin.copy_,run_underlying ht,Go.sizeOf,typeInfo,hi,hs.len,hs.cells,hst,goInt]
theorem OW.fill {k:Nat} {es es':List (List T)} {v:Value} {fp:List Nat} {t tx ty e:TypeId} {zs:List Value} {by_:Nat} [hm:TyMake P t e zs by_] (h:OW w (.sl k es) v fp) (hnd:fp.Nodup) (hkz:k=zs.length) {x:Value} (hl:es'.length=es.length) (h0:0<es.length) (hpl:plainT es') (hkk:∀ e∈es',e.length=k)
  (hsrc:Src P k tx x es'.length (flatV (plainV' es') es'.length k) w) :
  ∃ w' fp',(Builtin.copy_ #[t,tx] ty #[v,x]).run P w = .ok (.int .i64 es.length) w'∧OW w' (.sl k es') v fp'∧fp'.Nodup∧(∀ b∈fp',b∈fp)∧Keeps w w' fp:=by
 obtain⟨i,hi,hzz⟩:=Option.map_eq_some_iff.1 hm.info
 simp only[Prod.mk.injEq] at hzz
 obtain⟨hz1,hs,hb1⟩:=hzz
 have hsk:i.size=k:=by rw[hs,hkz]
 have hsrc2:Src P i.size tx x es.length (flatV (plainV' es') es'.length k) w:=by rw[hsk,←hl]; exact hsrc
 rcases h.open_ with ⟨rfl,rfl,rfl⟩ | ⟨b,o,c,tid,cur,fz,val,fps,rfl,rfl,hg,hzf,hc,hcm,hcs,hp,hk,hf,hfk,hv,ht⟩
 ·simp at h0
 ·have hmul:es'.length*k≤c*k:=Gx0 _ Aqa 
  have hr:=run_copy_src (P:=P) (w:=w) t tx ty e i hm.slice hi b o c es.length x _ hsrc2 (fun j hj=>by
   rw[cell_of_row w b _ cur tid fz hg]
   rw[Zh] at hj
   simp
   omega) (fun j hj=>by
   rw[Zh] at hj
   exact frozen_fz hg hzf Aqa)
  obtain⟨cur',k1,k2,k3,k4⟩:=Zl b tid fz (flatV (plainV' es') es'.length k) o w cur hg (by rw[Zh]; omega)
  obtain⟨s1,s2,s3,s4,s5⟩:=V6 w b (flatV (plainV' es') es'.length k) o
  have hnil:(es'.map fun e=>e.map fun _=>([]:List Nat)).flatten.flatten = []:=by
   rw[List.flatten_eq_nil_iff]
   intro l hl
   rw[Gxn] at hl
   obtain⟨f,hf,hl⟩:=hl
   obtain⟨e,_,rfl⟩:=Gqv.1 hf
   obtain⟨_,_,rfl⟩:=Gqv.1 hl
   rfl
  refine⟨_,b::(es'.map fun e=>e.map fun _=>([]:List Nat)).flatten.flatten,hr,?_,by rw[hnil]; simp,fun x hx=>?_,s1,s2,s3,Aqa,fun b'' _ hb''=>s5 b'' fun e=>hb'' (by simp[e])⟩
  ·rw[←hl]
   refine .sl es' b o k c tid cur' fz (plainV' es') (es'.map fun e=>e.map fun _ => []) k1 (by rw[k2]; exact hzf) Aqa hcm (by rw[k2]; exact hcs) hp hkk Aqd (fun f hf=>?_) (fun i j hi hj=>?_) fun i j e t fs f h6 h7 h8 h9=>?_
   ·obtain⟨e,h6,rfl⟩:=Gqv.1 hf
    simpa using hkk e h6
   ·have h1:=ij_lt hi hj
    rw[Gxx,k3 _ (by rw[Zh]; exact h1)]
    exact flatV_at hi hj
   ·rw[Gqk,h6] at h8
    simp only[Gq1,Option.some.injEq] at h8
    subst h8
    rw[Gqk,h7] at h9
    simp only[Gq1,Option.some.injEq] at h9
    subst h9
    obtain⟨u,rfl⟩:=hpl e (Zk h6) t (Zk h7)
    rw[plainV'_at h6 h7]
    refine .v u ?_
    have hi:=Zj h6
    have hj:j<k:=by rw[←hkk e (Zk h6)]; exact Zj h7
    have:=hsrc.one _ (Zk (flatV_at (val:=plainV' es') hi hj))
    rwa[plainV'_at h6 h7] at this
  ·rw[hnil] at hx
   rcases List.mem_cons.1 hx with rfl | hx
   ·simp
   ·cases hx
end
section
variable {P:Program} {E:Env} {ops:Array Oper} {o:Oper} {st:St} {n:Nat} {rest:List Oper} {QQ:Exit→St→Prop} {t:TypeId} {y z:Operand}
theorem exec_copy {a:Act} {w w':World} {v:Value} (ho:o.op = .call { callee := .builtin .copy,args:=#[y,z],argTypes:=#[t,t] }) (h:(Builtin.copy_ #[t,t] o.type #[a.eval y,a.eval z]).run P w = .ok v w'):(execOp a.eval o).run P w = .ok (.value v) w':=by
 unfold execOp
 simp only[ho,resolve,invoke,builtin,Sem.run_bind,Sem.run_pure,Result.andThen_ok,List.map_toArray,List.map_cons,List.map_nil,h]
theorem L_copy {p kk:Nat} {es es':List (List T)} {x:V1} {e:TypeId} {zs:List Value} {by_:Nat} [hm:TyMake P t e zs by_] (ho:o.op = .call { callee := .builtin .copy,args:=#[y,z],argTypes:=#[t,t] }) (hg:o.guard=none) (hy:st.ev y = .o (.c (.ref p))) (hp:st.objs[p]? = some (.row kk es)) (hz:st.ev z = .o (.c x)) (hs:srcOf st.objs x=some es')
  (hkz:kk=zs.length) (hz0:zs ≠ []) (hd:dstOk st.n o.dst=true) (hpl:plainT es') (hkk:∀ e∈es',e.length=kk) (hl:es'.length=es.length) (h0:0<es.length)
  (h:AL P E ops QQ rest ⟨st.n,setT (st.tmps.map fun e=>(e.1,e.2.kille p [])) o.dst (I es.length),(st.objs.map (Ob.kille p [])).set p (.row kk es')⟩):AL P E ops QQ (o::rest) st:=by
 refine⟨fun a w ⟨H,F,h1,h2⟩ => ?_⟩
 obtain⟨v,fp,e1,e2⟩:=h1.ow hp
 obtain⟨x',fp',e3⟩:=h1.v1 hy
 rw[e1] at e3
 simp only[Pc.ow.injEq] at e3
 obtain⟨_,hv,_⟩:=e3
 have hnd:=h1.ok.nodup p
 rw[e1] at hnd
 have hsrc:=src_any (P:=P) (t:=t) (e:=e) (by_:=by_) (kk:=kk) h1 hkz hz0 (h1.v1 hz) hs hpl hkk
 obtain⟨w',fp'',hr,h3,h4,h5,h6⟩:=OW.fill (P:=P) (t:=t) (ty:=o.type) e2 hnd hkz hl h0 hpl hkk hsrc
 obtain⟨hok,htn⟩:=h1.ok.turn (p:=p) (fp:=fp) Bxe h6 (.ow (.sl kk es') v fp'') h3 h4 trivial (fun b hb => .inl (h5 b hb))
 obtain⟨hplt,_⟩:=Gqo.1 hp
 have hR:=h1.turne (rs := []) htn hok e1 (Hs.put_self _ _ _) Aqd Aqd  (ob := .row kk es') ⟨_,_,Hs.put_self _ _ _⟩ hplt
 have hR2:=hR.put (x:=I es.length) o.dst hd (v := .int .i64 es.length) (plainV _ rfl)
 refine wpList_step fun K hK=>?_
 rw[if_pos Bq6]
 unfold Oper.wp
 rw[exec_copy ho (by rw[←hv]; exact hr)]
 exact Bz0
theorem M_copy {d:Nat} {ts:List (Nat×V)} {obs:List Ob} {p kk:Nat} {es es':List (List T)} {x:V1} {e:TypeId} {zs:List Value} {by_:Nat} [hm:TyMake P t e zs by_] (ho:o.op = .call { callee := .builtin .copy,args:=#[y,z],argTypes:=#[t,t] }) (hg:o.guard=none) (hy:St.ev ⟨n,ts,obs⟩ y = .o (.c (.ref p))) (hp:obs[p]? = some (.row kk es)) (hz:St.ev ⟨n,ts,obs⟩ z = .o (.c x)) (hs:srcOf obs x=some es')
  (hkz:kk=zs.length) (hz0:zs.isEmpty=false) (hd:o.dst=some d) (hl:Nat.blt d n=true) (hpl:plainT es') (hkk:∀ e∈es',e.length=kk) (hle:es'.length=es.length) (h0:0<es.length)
  (h:AL P E ops QQ rest ⟨n,(d,I es.length)::(ts.map fun e=>(e.1,e.2.kille p [])),(obs.map (Ob.kille p [])).set p (.row kk es')⟩):AL P E ops QQ (o::rest) ⟨n,ts,obs⟩ :=
 L_copy ho hg hy hp hz hs hkz (by intro e; rw[e] at hz0; cases hz0) Bq8 hpl hkk hle h0 Bq9
end
end
end Go.Proofs.YtalaljeokcpfnaaGreat
