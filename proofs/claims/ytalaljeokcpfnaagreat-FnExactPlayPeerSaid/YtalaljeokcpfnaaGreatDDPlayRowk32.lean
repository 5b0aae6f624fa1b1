/-
  Rules, data and contracts of functions: part 33 of the proof.
  Conditions: those that each theorem names.
-/
import Derived.Test.YtalaljeokcpfnaaGreatDDPlayRowk31
set_option linter.unusedSimpArgs false
set_option linter.unusedVariables false
set_option maxRecDepth 8000
set_option maxHeartbeats 8000000
namespace Go.Proofs.YtalaljeokcpfnaaGreat
section
open Tryz
open Go.RowKit

theorem S_l03Copy (t:TTrack) (hL:t.Inputs.length≤1048576):Co 184 [] [ag t] [.row 1 (els t.Inputs)] (.o (.ag [Aqk 0])):=by
 have hl:=Y7 t.Inputs
 have h00:([]:List (List T)).length=0:=rfl
 refine Con.o func184 ntmps184 fun E=>?_;refine Wz [59,1,3,184,31] ?_;refine M_app J J J J J J J J J J (Y8 _) (Y6 _) Aqa Aqa  ?_;refine Wz [137,39,73] ?_
 exact Bzy
theorem S_l03CopyAll (xs:List TTrack) (hL:xs.length≤1048576) (hr:∀ t∈xs,t.Inputs.length≤1048576):Co 129 [] [al xs] [.row 1 (els xs)] (Aqg 0):=by
 have hlx:=Y7 xs
 refine Con.o func129 ntmps129 fun E=>?_;refine Wz [23,3,184,16,51] ?_;refine A_lt xs.length (fun k => [(0,L xs),(3,Aqg 0),(4,I k)]) (fun k => [.row 1 (els (xs.take k))]) (Yj [0] Aqb) ?_
 intro m_A k hk_A
 have hl2:(els (xs.take k)).length=k:=Bq4
 by_cases h3:k<xs.length
 ·have f3:decide ((k:Int)<((els xs).length:Int))=true:=Gqb Aqa 
  have hat:=Y4 h3
  have hc:=S_l03Copy xs[k] (hr _ (Gqe h3))
  refine Wz [147,77,27,141,78] ?_;refine kc1 hc ?_;refine Wz [116,122,110] ?_
  exact .t (k+1) (Yk [0] Aqc J (Vy (Zb h3)) (.c J (.c J (.c J (.nil)))))
 ·have f3:decide ((k:Int)<((els xs).length:Int))=false:=Gqa Aqa 
  have hk:xs.take k=xs:=Gqj Aqa 
  refine Wz [147,92,74] ?_
  exact Xp J J (Yh [0] Aqc J (Vy Bq2) J)
theorem S_l05Copy (w:TWire) (hL:Enc.wt w≤1048576):Co 67 [] [ag w] [.row 2 (els w.Flights)] (.o (.ag (wX w (Aqk 0)))):=by
 have hl:=Y7 w.Flights
 have hw:Enc.wt w=w.Flights.length+wts w.Flights:=rfl
 have h00:([]:List (List T)).length=0:=rfl
 refine Con.o func67 ntmps67 fun E=>?_;refine Wz [59,1,3,184,31] ?_;refine M_app J J J J J J J J J J (Y8 _) (Y6 _) Aqa Aqa  ?_;refine Wz [52,7,39,73] ?_
 exact Bzy
theorem S_l04Copy (x:TPeer) (h:PeerIn x):Co 66 [] [ag x] (pR x []) (.o (.ag (pC x 0 1 2 3 4 5 6 7 8 9))):=by
 obtain⟨_,_,_,_,gT,gB,gN,gU,gS,gM,gF,_,_⟩:=h.gd
 have hlu:=Y7 x.Used
 have hsv:=h.sv
 have hsm:=h.sm
 have hus:=h.us.1
 have wU:=h.us.2
 have h00:([]:List (List T)).length=0:=rfl
 have c1:=S_l03CopyAll x.Tracks h.tr.1 h.tr.2
 have c2:=Yf x.Base gB h.bw.1 h.bw.2.1 h.bw.2.2
 have c3:=Yf x.Now gN h.nw.1 h.nw.2.1 h.nw.2.2
 refine Con.o func66 ntmps66 fun E=>?_
 repeat (first | refine Qd ?_ | refine Qh ?_ | refine Qk ?_ | refine Q0 ?_)
 refine Wz [94,131,82] ?_;refine AL.kp [1,1,2,2] [] 2 [(0,.box (pD x)),(1,.box zP)] ?_;refine Wz [1] ?_
 repeat (first | refine Qd ?_ | refine Qh ?_ | refine Qk ?_ | refine Q0 ?_)
 refine Wz [94,85] ?_;refine AL.kp [1,1,2,2] [(5,.o (.ag (pD x)))] 2 [(0,.box (pD x)),(1,.box zP)] ?_;refine Wz [82,47] ?_;refine AL.kp [1,1,2,2,3,3] [] 3 [(0,.box (pD x)),(1,.box zP),(2,.box (pX x (sr x.Tracks) (sr x.Base.Level.Rows) (sr x.Base.Scores) (sr x.Base.Bodies) (sr x.Now.Level.Rows) (sr x.Now.Scores) (sr x.Now.Bodies) (sr x.Used) (sr x.Saves) (sr x.Sums)))] ?_;refine Wz [1,18] ?_;refine AL.kp [1,1,2,2,3,3,7,0] [] 3 [(0,.box (pD x)),(1,.box zP),(2,.box (pX x (sr x.Tracks) (sr x.Base.Level.Rows) (sr x.Base.Scores) (sr x.Base.Bodies) (sr x.Now.Level.Rows) (sr x.Now.Scores) (sr x.Now.Bodies) (sr x.Used) (sr x.Saves) (sr x.Sums)))] ?_;refine kc1 c1 ?_;refine Wz [52,56] ?_;refine AL.kp [1,1,2,2,3,3] [(11,.o (.ag (wD x.Base)))] 4 [(0,.box (pD x)),(1,.box zP),(2,.box (pX x (Aqk 3) (sr x.Base.Level.Rows) (sr x.Base.Scores) (sr x.Base.Bodies) (sr x.Now.Level.Rows) (sr x.Now.Scores) (sr x.Now.Bodies) (sr x.Used) (sr x.Saves) (sr x.Sums)))] ?_;refine kc1 c2 ?_;refine Wz [79,39,56] ?_;refine AL.kp [1,1,2,2,3,3] [(15,.o (.ag (wD x.Now)))] 7 [(0,.box (pD x)),(1,.box zP),(2,.box (pX x (Aqk 3) (Aqk 4) (Aqk 5) (Aqk 6) (sr x.Now.Level.Rows) (sr x.Now.Scores) (sr x.Now.Bodies) (sr x.Used) (sr x.Saves) (sr x.Sums)))] ?_;refine kc1 c3 ?_;refine Wz [79,39,3,52,107] ?_
 refine AWP.pre ?_ (Wk.nilbox (p:=2) (i:=15) 1 J J)
 refine A_lt x.Used.length (fun k => [(1,Aqf 0),(2,Aqf 1),(3,Aqf 2),(4,I k)]) (fun k => [.box (pD x),.box zP,.box (pX x (Aqk 3) (Aqk 4) (Aqk 5) (Aqk 6) (Aqk 7) (Aqk 8) (Aqk 9) (Aqk 10) (sr x.Saves) (sr x.Sums)),.row 1 (els x.Tracks),.row 1 (els x.Base.Level.Rows),.row 1 (els x.Base.Scores),.row 9 (els x.Base.Bodies),.row 1 (els x.Now.Level.Rows),.row 1 (els x.Now.Scores),.row 9 (els x.Now.Bodies),.row 1 (els (x.Used.take k))]) (Yj [0,1,2,3,4,5,6,7,8,9,10] Aqb) ?_
 intro m_A k hk_A
 have hl2:(els (x.Used.take k)).length=k:=Bq4
 by_cases h3:k<x.Used.length
 ·have f3:decide ((k:Int)<((els x.Used).length:Int))=true:=Gqb Aqa 
  have hat:=Y4 h3
  have hrk:=wU _ (Gqe h3)
  have hsn:=Zb h3
  generalize x.Used[k]=r at hat hrk hsn
  have hlk:=Y7 r
  refine Wz [41,105,77] ?_;refine AWP.kp [1,1,2,2,3,3,4,0] [] 11 [(0,.box (pD x)),(1,.box zP),(2,.box (pX x (Aqk 3) (Aqk 4) (Aqk 5) (Aqk 6) (Aqk 7) (Aqk 8) (Aqk 9) (Aqk 10) (sr x.Saves) (sr x.Sums)))] ?_
  cases r with
  |nil =>
   refine Xi u8_56 u8_57 u8_58 J ?_;refine Wz [37,232,67,64,292,153,12] ?_;refine AL.weak (Wk.sbrow (q:=11) (es := []) J J (Gqx J)) ?_;refine Wz [122,121,130] ?_
   exact .t (k+1) Bx4
  |cons a rs =>
   have hpos:0<(els (a::rs)).length:=by rw[Y7]; simp
   refine Xi u8_56 u8_57 u8_58 J ?_;refine Wz [37,232,67,64] ?_;refine Uq (q_appz J J J J J J (Y8 _) (Y6 _) hpos Aqa Aqa) J ?_;refine Wz [153,12,122,121,130] ?_
   exact .t (k+1) Bx4
 have f3:decide ((k:Int)<((els x.Used).length:Int))=false:=Gqa Aqa 
 have hk:x.Used.take k=x.Used:=Gqj Aqa 
 rw[hk]
 clear hl2 h3 hk
 refine Wz [41,105,92,30,3,184,31] ?_;refine AL.kp [1,1,2,2,3,3,40,0] [(38,Aqg 11)] 12 [(0,.box (pD x)),(1,.box zP),(2,.box (pX x (Aqk 3) (Aqk 4) (Aqk 5) (Aqk 6) (Aqk 7) (Aqk 8) (Aqk 9) (Aqk 10) (sr x.Saves) (sr x.Sums)))] ?_
 have hls:=Y7 x.Saves
 refine M_app J J J J J J J J J J (Y8 _) (Y6 _) Aqa Aqa  ?_;refine AL.kp [1,1,2,2,3,3] [(41,Aqg 11)] 12 [(0,.box (pD x)),(1,.box zP),(2,.box (pX x (Aqk 3) (Aqk 4) (Aqk 5) (Aqk 6) (Aqk 7) (Aqk 8) (Aqk 9) (Aqk 10) (sr x.Saves) (sr x.Sums)))] ?_;refine Wz [52,3,184,31] ?_;refine AL.kp [1,1,2,2,3,3,45,0] [(43,Aqg 12)] 13 [(0,.box (pD x)),(1,.box zP),(2,.box (pX x (Aqk 3) (Aqk 4) (Aqk 5) (Aqk 6) (Aqk 7) (Aqk 8) (Aqk 9) (Aqk 10) (Aqk 11) (sr x.Sums)))] ?_
 have hlm:=Y7 x.Sums
 refine M_app J J J J J J J J J J (Y8 _) (Y6 _) Aqa Aqa  ?_;refine AL.kp [1,1,2,2,3,3] [(46,Aqg 12)] 13 [(0,.box (pD x)),(1,.box zP),(2,.box (pX x (Aqk 3) (Aqk 4) (Aqk 5) (Aqk 6) (Aqk 7) (Aqk 8) (Aqk 9) (Aqk 10) (Aqk 11) (sr x.Sums)))] ?_;refine Wz [121] ?_;refine AL.kp [1,1,2,2,3,3] [] 13 [(0,.box (pD x)),(1,.box zP),(2,.box (pX x (Aqk 3) (Aqk 4) (Aqk 5) (Aqk 6) (Aqk 7) (Aqk 8) (Aqk 9) (Aqk 10) (Aqk 11) (Aqk 12)))] ?_;refine Wz [1] ?_
 repeat (first | refine Qd ?_ | refine Qh ?_ | refine Qk ?_ | refine Q0 ?_)
 refine Wz [94,85] ?_;refine AL.kp [1,1,2,2,3,3] [(48,.o (.ag (pX x (Aqk 3) (Aqk 4) (Aqk 5) (Aqk 6) (Aqk 7) (Aqk 8) (Aqk 9) (Aqk 10) (Aqk 11) (Aqk 12))))] 13 [(0,.box (pD x)),(1,.box zP),(2,.box (pX x (Aqk 3) (Aqk 4) (Aqk 5) (Aqk 6) (Aqk 7) (Aqk 8) (Aqk 9) (Aqk 10) (Aqk 11) (Aqk 12)))] ?_;refine Qy J J J J J J J J J ?_;refine AL.kr [1,1,2,2] [] [0,1,3,4,5,6,7,8,9,10,11,12] [(0,.box (pD x)),(1,.box (pX x (Aqk 2) (Aqk 3) (Aqk 4) (Aqk 5) (Aqk 6) (Aqk 7) (Aqk 8) (Aqk 9) (Aqk 10) (Aqk 11)))] ?_;refine Wz [1,73] ?_
 exact Xm (cs:=pS x) J J J J (Yh [2,3,4,5,6,7,8,9,10,11] Aqc J Aqb Aqb)
end
section
open Tryz
open Go.RowKit

def V1.tosk (q:Nat):V1→V1
 | .sb p n k=>match Nat.beq p q with
  |true=>match n with
   |0 => .ref q
   |_ => .un
  |false=>(V1.sb p n k).kill [q]
 |x=>x.kill [q]
theorem Wk.sbnil {st:St} {q:Nat} (k:Nat) (hq:st.objs[q]? = some (.box [])) (hk:Nat.blt 0 k=true):Wk st ⟨st.n,st.tmps.map fun t=>(t.1,t.2.mapk (V1.tosk q)),(st.objs.map (Ob.mapk (V1.tosk q))).set q (.row k [])⟩:=by
 intro w H F a h1
 have hb:=h1.obs q
 rw[Zi hq] at hb
 obtain⟨g,t,vs,e1,e2,e3⟩:=hb
 have hsay:=h1.ok.says q
 rw[e1] at hsay
 have hg:w.heap[g]? = some (.cells vs.toArray t (0,0)):=hsay
 have hqlt:=Zj hq
 have hkp:0<k:=Gqx hk
 have hO:OW w (.sl k []) (.slice (some ⟨g,0,none⟩) 0 0) [g]:=OW.sl [] g 0 k 0 t vs.toArray (0,0) (fun _ _=>undef) [] hg (.inl rfl) (Gqi _) (Gxm _) Aqd hkp (fun e he=>by simp at he) rfl (fun f hf=>by simp at hf) (fun i j hi=>by simp at hi) (fun i j e t fs f h=>by simp at h)
 have hkeep:Keeps w w [g]:=⟨rfl,rfl,rfl,Gqi _,fun _ _ _=>rfl⟩
 obtain⟨hok,htn⟩:=h1.ok.turn (p:=q) (fp := [g]) Bxe hkeep (.ow (.sl k []) (.slice (some ⟨g,0,none⟩) 0 0) [g]) hO (by simp[Pc.fp]) trivial (fun b hb => .inl hb)
 have hone:∀ x v,R1 w H F x v→R1 w (H.put q (.ow (.sl k []) (.slice (some ⟨g,0,none⟩) 0 0) [g])) F (V1.tosk q x) v:=fun x v hx=>by
  cases x with
  | sb p n k' =>
   simp only[V1.tosk]
   split
   ·rename_i hp
    have hpq:=Gq8 hp
    subst hpq
    split
    ·obtain⟨g',t',vs',k1,k2,k3,k4⟩:=hx
     rw[e1] at k1
     simp only[Pc.box.injEq] at k1
     obtain⟨rfl,rfl,rfl⟩:=k1
     rw[k4]
     exact⟨.sl k [],[g],by rw[Hs.put_self]⟩
    ·trivial
   ·exact R1.killed h1.ok htn hx
  |_=>exact R1.killed h1.ok htn hx
 refine⟨_,h1.mapk (V1.tosk q) hone hok ((st.objs.map (Ob.mapk (V1.tosk q))).set q (.row k [])) (fun p=>?_),fun p b hb=>?_,htn.gh⟩
 ·by_cases hpq:p=q
  ·subst hpq
   rw[Zi (x := .row k []) (by simp[hqlt])]
   exact Bzs
  ·rw[Gqf,Gxa (Ne.symm hpq),Gqk]
   have h2:=h1.obs p
   rw[Gqf] at h2
   have h3:=Hs.put_ne H (.ow (.sl k []) (.slice (some ⟨g,0,none⟩) 0 0) [g]) hpq
   cases ho:st.objs[p]? with
   |none=>rw[ho] at h2; exact h3.trans h2
   |some ob=>rw[ho] at h2; exact RB.mapk hone h3 h2
 ·by_cases hpq:p=q
  ·subst hpq
   rw[Hs.put_self] at hb
   exact⟨p,by rw[e1]; exact hb⟩
  ·exact⟨p,by rw[←Hs.put_ne H _ hpq]; exact hb⟩
theorem S_l08Copy (x:TMatch) (h:MatchIn x):Co 19 [] [ag x] (mR x []) (.o (.ag (mC x 0))):=by
 obtain⟨gL,_,_,gS,gP,gW,gQ,gA,_,gV,gK,gB,_⟩:=h.gd
 have hle:=h.le
 have c1:=S_copyLevel x.Level gL (Zo hle.L).1
 obtain⟨lS,wS⟩:=rows_in hle.S
 obtain⟨lA,wA⟩:=rows_in hle.A
 obtain⟨lP,wP⟩:=Zo hle.P
 obtain⟨lW,wW⟩:=Zo hle.W
 obtain⟨lQ,wQ⟩:=Zo hle.Q
 obtain⟨lV,wV⟩:=Zo hle.V
 obtain⟨lK,wK⟩:=Zo hle.K
 obtain⟨lB,wB⟩:=Zo hle.B
 have eS:=Y7 x.Scripts
 have eA:=Y7 x.Acks
 have eP:=Y7 x.Peers
 have eW:=Y7 x.Wires
 have eQ:=Y7 x.Paces
 have eV:=Y7 x.Watchers
 have eK:=Y7 x.Lines
 have eB:=Y7 x.Alarms
 have h00:([]:List (List T)).length=0:=rfl
 refine Con.o func19 ntmps19 fun E=>?_
 repeat (first | refine Qd ?_ | refine Qh ?_ | refine Qk ?_ | refine Q0 ?_)
 refine Wz [94,131,82] ?_;refine AL.kp [1,1,2,2] [] 2 [(0,.box (mD x)),(1,.box zM)] ?_;refine Wz [1] ?_
 repeat (first | refine Qd ?_ | refine Qh ?_ | refine Qk ?_ | refine Q0 ?_)
 refine AWP.kp [1,1,2,2] [] 2 [(0,.box (mD x)),(1,.box zM)] ?_;refine Xi [[],[0],[0,1],[],[3],[],[5],[],[7],[],[9],(u9 11),[],(u9 13)] [[],[14],[14,15],[],[17],[],[19],[],[21],[],[23],(gg [14,11]),[],(gg [3,1,14,12])] (tt [[3,1,17,8],[3,1,17,8],[3,1,17,8],[3,1,14,3,19,6],[3,1,14,3,19,6],[3,1,14,5,21,4],[3,1,14,5,21,4],[3,1,14,7,23,2],[3,1,14,7,23,2],[3,1,14,9],[3,1,14,9],[3,1],[14,12],[]]) J ?_;refine Wz [145,136] ?_;refine Uq (Kr J J (c1) J J J) J ?_;refine Wz [37,37,37,37] ?_;refine DR.s (x := .o (.ag (mX x (Aqk 2) nv nv nv nv nv nv nv nv))) (Ko J J J J Aqb) J J ?_;refine Wz [221,12] ?_;refine AL.kr [1,1,2,2,3,3] [(25,.o (.ag (mX x (Aqk 3) nv nv nv nv nv nv nv nv)))] [0,1,3,2] [(0,.box (mD x)),(1,.box zM),(3,.box zM)] ?_;refine Qy J J J J J J J J J ?_;refine AL.kp [1,1,2,2,3,3] [] 4 [(0,.box (mD x)),(1,.box zM),(2,.box (mX x (Aqk 3) nv nv nv nv nv nv nv nv))] ?_;refine Wz [1,107] ?_
 refine AWP.pre ?_ (Wk.nilbox (p:=2) (i:=3) 1 J J)
 refine A_lt x.Scripts.length (fun k => [(1,Aqf 0),(2,Aqf 1),(3,Aqf 2),(4,I k)]) (fun k => [.box (mD x),.box zM,.box (mX x (Aqk 3) (Aqk 4) nv nv nv nv nv nv nv),.row 1 (els x.Level.Rows),.row 1 (els (x.Scripts.take k))]) (Yj [0,1,2,3,4] Aqb) ?_
 intro m_A k hk_A
 have hl2:(els (x.Scripts.take k)).length=k:=Bq4
 by_cases h3:k<x.Scripts.length
 ·have f3:decide ((k:Int)<((els x.Scripts).length:Int))=true:=Gqb Aqa 
  have hat:=Y4 h3
  have hm:=Gqe h3
  have hsn:=Zb h3
  generalize x.Scripts[k]=u at hat hm hsn
  have hrk:=wS u hm
  have hlk:=Y7 u
  refine Wz [41,105,77] ?_;refine AWP.kp [1,1,2,2,3,3,4,0] [] 5 [(0,.box (mD x)),(1,.box zM),(2,.box (mX x (Aqk 3) (Aqk 4) nv nv nv nv nv nv nv))] ?_
  cases u with
  |nil =>
   refine Xi u8_56 u8_59 u8_60 J ?_;refine Wz [37,232,67,64,292,153,12] ?_;refine AL.weak (Wk.sbnil (q:=5) 1 J J) ?_;refine Wz [122,121,130] ?_
   exact .t (k+1) (by rw[hsn]; exact Yj [0,1,2,3,4] Aqb)
  |cons a rs =>
   have hpos:0<(els (a::rs)).length:=by rw[Y7]; simp
   refine Xi u8_56 u8_59 u8_60 J ?_;refine Wz [37,232,67,64] ?_;refine Uq (q_appz J J J J J J (Y8 _) (Y6 _) hpos Aqa Aqa) J ?_;refine Wz [153,12,122,121,130] ?_
   exact .t (k+1) (by rw[hsn]; exact Yj [0,1,2,3,4] Aqb)
 have f3:decide ((k:Int)<((els x.Scripts).length:Int))=false:=Gqa Aqa 
 have hk:x.Scripts.take k=x.Scripts:=Gqj Aqa 
 rw[hk]
 clear hl2 h3 hk
 refine Wz [41,105,92,30,107] ?_
 refine AWP.pre ?_ (Wk.nilbox (p:=2) (i:=4) 23 J J)
 refine A_lt x.Peers.length (fun k => [(1,Aqf 0),(2,Aqf 1),(3,Aqf 2),(5,I k)]) (fun k => [.box (mD x),.box zM,.box (mX x (Aqk 3) (Aqk 4) (Aqk 5) nv nv nv nv nv nv),.row 1 (els x.Level.Rows),.row 1 (els x.Scripts),.row 23 (els (x.Peers.take k))]) (Yj [0,1,2,3,4,5] Aqb) ?_
 intro m_B k hk_B
 have hl2:(els (x.Peers.take k)).length=k:=Bq4
 by_cases h3:k<x.Peers.length
 ·have f3:decide ((k:Int)<((els x.Peers).length:Int))=true:=Gqb Aqa 
  have hat:=Y4 h3
  have hm:=Gqe h3
  have hsn:=Zb h3
  generalize x.Peers[k]=u at hat hm hsn
  have cP:=S_l04Copy u (peer_in2 (gP.2 u hm) (wP u hm))
  refine Wz [41,105,77] ?_;refine AWP.kp [1,1,2,2,3,3,5,0] [] 6 [(0,.box (mD x)),(1,.box zM),(2,.box (mX x (Aqk 3) (Aqk 4) (Aqk 5) nv nv nv nv nv nv))] ?_;refine Xi u8_61 (tt [[],[52,1],[],[54,1],[],[54,3],[54,4],[54,5],[54,6],[52,9],[52,10],[52,11]]) (tt [[54,7],[54,7],[52,2,56,1],[52,2,56,1],[52,4],[52,2],[52,2],[52,2],[52,2],[],[],[]]) J ?_;refine Wz [37,67,132,159] ?_;refine Uq (Kr J J (cP) J J J) J ?_;refine Wz [153,12] ?_;refine AL.kp [1,1,2,2,3,3,5,0] [(53,Aqg 5),(60,.o (.c (.sb 16 1 23)))] 17 [(0,.box (mD x)),(1,.box zM),(2,.box (mX x (Aqk 3) (Aqk 4) (Aqk 5) nv nv nv nv nv nv)),(16,.box (pC u 6 7 8 9 10 11 12 13 14 15))] ?_;refine X6 J J J J J J J J J J J J J J Aqa Aqa  ?_;refine AL.kp [1,1,2,2,3,3,5,0] [(61,Aqg 5)] 6 [(0,.box (mD x)),(1,.box zM),(2,.box (mX x (Aqk 3) (Aqk 4) .un nv nv nv nv nv nv))] ?_;refine Wz [121,130] ?_
  exact .t (k+1) (by rw[hsn]; exact Yj [0,1,2,3,4,5] Aqb)
 have f3:decide ((k:Int)<((els x.Peers).length:Int))=false:=Gqa Aqa 
 have hk:x.Peers.take k=x.Peers:=Gqj Aqa 
 rw[hk]
 clear hl2 h3 hk
 refine Wz [41,105,92,30,107] ?_
 refine AWP.pre ?_ (Wk.nilbox (p:=2) (i:=5) 1 J J)
 refine A_lt x.Wires.length (fun k => [(1,Aqf 0),(2,Aqf 1),(3,Aqf 2),(6,I k)]) (fun k => [.box (mD x),.box zM,.box (mX x (Aqk 3) (Aqk 4) (Aqk 5) (Aqk 6) nv nv nv nv nv),.row 1 (els x.Level.Rows),.row 1 (els x.Scripts),.row 23 (els x.Peers),.row 1 (els (x.Wires.take k))]) (Yj [0,1,2,3,4,5,6] Aqb) ?_
 intro m_C k hk_C
 have hl2:(els (x.Wires.take k)).length=k:=Bq4
 by_cases h3:k<x.Wires.length
 ·have f3:decide ((k:Int)<((els x.Wires).length:Int))=true:=Gqb Aqa 
  have hat:=Y4 h3
  have hm:=Gqe h3
  have hsn:=Zb h3
  generalize x.Wires[k]=u at hat hm hsn
  obtain⟨lu,wu⟩:=Zo (wW u hm)
  have eu:=Y7 u
  refine Wz [41,105,77,3,184,16,51] ?_;refine A_lt u.length (fun j => [(1,Aqf 0),(2,Aqf 1),(3,Aqf 2),(6,I k),(7,Aqg 7),(8,I j)]) (fun j => [.box (mD x),.box zM,.box (mX x (Aqk 3) (Aqk 4) (Aqk 5) (Aqk 6) nv nv nv nv nv),.row 1 (els x.Level.Rows),.row 1 (els x.Scripts),.row 23 (els x.Peers),.row 1 (els (x.Wires.take k)),.row 10 (els (u.take j))]) (Yj [0,1,2,3,4,5,6,7] Aqb) ?_
  intro m_J j hk_J
  have hl4:(els (u.take j)).length=j:=Bq4
  by_cases h5:j<u.length
  ·have f5:decide ((j:Int)<((els u).length:Int))=true:=Gqb Aqa 
   have hat2:=Y4 h5
   have cw:=S_l05Copy u[j] (wu _ (Gqe h5))
   have hsn2:=Zb h5
   generalize u[j]=v at hat2 cw hsn2
   refine Wz [41,68,100,25,77,27,68,158,48,78] ?_;refine kc1 cw ?_;refine Wz [116,122,110] ?_
   exact .t (j+1) (by rw[hsn2]; exact Yj [0,1,2,3,4,5,6,7] Aqb)
  have f5:decide ((j:Int)<((els u).length:Int))=false:=Gqa Aqa 
  have hk2:u.take j=u:=Gqj Aqa 
  rw[hk2]
  clear hl4 h5 hk2
  refine Wz [41,68,100,25,92,30,94,68,116,122,121,130] ?_
  exact .t (k+1) (by rw[hsn]; exact Yj [0,1,2,3,4,5,6] Aqb)
 have f3:decide ((k:Int)<((els x.Wires).length:Int))=false:=Gqa Aqa 
 have hk:x.Wires.take k=x.Wires:=Gqj Aqa 
 rw[hk]
 clear hl2 h3 hk
 refine Wz [41,105,92,30,107] ?_
 refine AWP.pre ?_ (Wk.nilbox (p:=2) (i:=6) 1 J J)
 refine A_lt x.Paces.length (fun k => [(1,Aqf 0),(2,Aqf 1),(3,Aqf 2),(9,I k)]) (fun k => [.box (mD x),.box zM,.box (mX x (Aqk 3) (Aqk 4) (Aqk 5) (Aqk 6) (Aqk 7) nv nv nv nv),.row 1 (els x.Level.Rows),.row 1 (els x.Scripts),.row 23 (els x.Peers),.row 1 (els x.Wires),.row 1 (els (x.Paces.take k))]) (Yj [0,1,2,3,4,5,6,7] Aqb) ?_
 intro m_D k hk_D
 have hl2:(els (x.Paces.take k)).length=k:=Bq4
 by_cases h3:k<x.Paces.length
 ·have f3:decide ((k:Int)<((els x.Paces).length:Int))=true:=Gqb Aqa 
  have hat:=Y4 h3
  have hm:=Gqe h3
  have hsn:=Zb h3
  generalize x.Paces[k]=u at hat hm hsn
  have hrk:=(Zo (wQ u hm)).1
  have hlk:=Y7 u
  refine Wz [41,105,77] ?_;refine AWP.kp [1,1,2,2,3,3,9,0] [] 8 [(0,.box (mD x)),(1,.box zM),(2,.box (mX x (Aqk 3) (Aqk 4) (Aqk 5) (Aqk 6) (Aqk 7) nv nv nv nv))] ?_
  cases u with
  |nil =>
   refine Xi u8_56 u8_62 u8_63 J ?_;refine Wz [37,232,67,64,292,153,12] ?_;refine AL.weak (Wk.sbnil (q:=8) 5 J J) ?_;refine Wz [122,121,130] ?_
   exact .t (k+1) Bzb
  |cons a rs =>
   have hpos:0<(els (a::rs)).length:=by rw[Y7]; simp
   refine Xi u8_56 u8_62 u8_63 J ?_;refine Wz [37,232,67,64] ?_;refine Uq (q_appz J J J J J J (Y8 _) (Y6 _) hpos Aqa Aqa) J ?_;refine Wz [153,12,122,121,130] ?_
   exact .t (k+1) Bzb
 have f3:decide ((k:Int)<((els x.Paces).length:Int))=false:=Gqa Aqa 
 have hk:x.Paces.take k=x.Paces:=Gqj Aqa 
 rw[hk]
 clear hl2 h3 hk
 refine Wz [41,105,92,30,107] ?_
 refine AWP.pre ?_ (Wk.nilbox (p:=2) (i:=7) 1 J J)
 refine A_lt x.Acks.length (fun k => [(1,Aqf 0),(2,Aqf 1),(3,Aqf 2),(10,I k)]) (fun k => [.box (mD x),.box zM,.box (mX x (Aqk 3) (Aqk 4) (Aqk 5) (Aqk 6) (Aqk 7) (Aqk 8) nv nv nv),.row 1 (els x.Level.Rows),.row 1 (els x.Scripts),.row 23 (els x.Peers),.row 1 (els x.Wires),.row 1 (els x.Paces),.row 1 (els (x.Acks.take k))]) (Yj [0,1,2,3,4,5,6,7,8] Aqb) ?_
 intro m_G k hk_G
 have hl2:(els (x.Acks.take k)).length=k:=Bq4
 by_cases h3:k<x.Acks.length
 ·have f3:decide ((k:Int)<((els x.Acks).length:Int))=true:=Gqb Aqa 
  have hat:=Y4 h3
  have hm:=Gqe h3
  have hsn:=Zb h3
  generalize x.Acks[k]=u at hat hm hsn
  have hrk:=wA u hm
  have hlk:=Y7 u
  refine Wz [41,105,77] ?_;refine AWP.kp [1,1,2,2,3,3,10,0] [] 9 [(0,.box (mD x)),(1,.box zM),(2,.box (mX x (Aqk 3) (Aqk 4) (Aqk 5) (Aqk 6) (Aqk 7) (Aqk 8) nv nv nv))] ?_
  cases u with
  |nil =>
   refine Xi u8_56 u8_64 u8_65 J ?_;refine Wz [37,232,67,64,292,153,12] ?_;refine AL.weak (Wk.sbnil (q:=9) 1 J J) ?_;refine Wz [122,121,130] ?_
   exact .t (k+1) (by rw[hsn]; exact Yj [0,1,2,3,4,5,6,7,8] Aqb)
  |cons a rs =>
   have hpos:0<(els (a::rs)).length:=by rw[Y7]; simp
   refine Xi u8_56 u8_64 u8_65 J ?_;refine Wz [37,232,67,64] ?_;refine Uq (q_appz J J J J J J (Y8 _) (Y6 _) hpos Aqa Aqa) J ?_;refine Wz [153,12,122,121,130] ?_
   exact .t (k+1) (by rw[hsn]; exact Yj [0,1,2,3,4,5,6,7,8] Aqb)
 have f3:decide ((k:Int)<((els x.Acks).length:Int))=false:=Gqa Aqa 
 have hk:x.Acks.take k=x.Acks:=Gqj Aqa 
 rw[hk]
 clear hl2 h3 hk
 refine Wz [41,105,92,30,107] ?_
 refine AWP.pre ?_ (Wk.nilbox (p:=2) (i:=9) 6 J J)
 refine A_lt x.Watchers.length (fun k => [(1,Aqf 0),(2,Aqf 1),(3,Aqf 2),(11,I k)]) (fun k => [.box (mD x),.box zM,.box (mX x (Aqk 3) (Aqk 4) (Aqk 5) (Aqk 6) (Aqk 7) (Aqk 8) (Aqk 9) nv nv),.row 1 (els x.Level.Rows),.row 1 (els x.Scripts),.row 23 (els x.Peers),.row 1 (els x.Wires),.row 1 (els x.Paces),.row 1 (els x.Acks),.row 6 (els (x.Watchers.take k))]) (Yj [0,1,2,3,4,5,6,7,8,9] Aqb) ?_
 intro m_K k hk_K
 have hl2:(els (x.Watchers.take k)).length=k:=Bq4
 by_cases h3:k<x.Watchers.length
 ·have f3:decide ((k:Int)<((els x.Watchers).length:Int))=true:=Gqb Aqa 
  have hat:=Y4 h3
  have hm:=Gqe h3
  have hsn:=Zb h3
  generalize x.Watchers[k]=u at hat hm hsn
  have cV:=Yf u.World (gV.2 u hm).1 (sp_in (wV u hm)).1 (sp_in (wV u hm)).2.1 (sp_in (wV u hm)).2.2
  refine Wz [41,105,77] ?_;refine AWP.kp [1,1,2,2,3,3,11,0] [] 10 [(0,.box (mD x)),(1,.box zM),(2,.box (mX x (Aqk 3) (Aqk 4) (Aqk 5) (Aqk 6) (Aqk 7) (Aqk 8) (Aqk 9) nv nv))] ?_;refine Xi (tt [[],[0,1],[],[2,1],[],[2,3],[2,4],[2,5],[2,6],[],[9,1],[],[9,3],[9,4],[9,5],[2,13],[2,14],[0,17],[0,18],[0,19]]) (tt [[],[144,1],[],[146,1],[],[146,3],[146,4],[146,5],[146,6],[],[153,1],[],[153,3],[153,4],[153,5],[146,13],[146,14],[144,17],[144,18],[144,19]]) (tt [[146,15],[146,15],[144,2,148,1,153,6],[144,2,148,1,153,6],[144,4,153,6],[144,2,153,6],[144,2,153,6],[144,2,153,6],[144,2,153,6],[144,9,155,1],[144,9,155,1],[144,11],[144,9],[144,9],[144,9],[144,2],[144,2],[],[],[]]) J ?_;refine Wz [37,67,132,192,159] ?_;refine Uq (Kr J J (cV) J J J) J ?_;refine Wz [67,132,192,201,257,153,12,122,121,130] ?_
  exact .t (k+1) (by rw[hsn]; exact Yj [0,1,2,3,4,5,6,7,8,9] Aqb)
 have f3:decide ((k:Int)<((els x.Watchers).length:Int))=false:=Gqa Aqa 
 have hk:x.Watchers.take k=x.Watchers:=Gqj Aqa 
 rw[hk]
 clear hl2 h3 hk
 refine Wz [41,105,92,30,107] ?_
 refine AWP.pre ?_ (Wk.nilbox (p:=2) (i:=10) 10 J J)
 refine A_lt x.Lines.length (fun k => [(1,Aqf 0),(2,Aqf 1),(3,Aqf 2),(12,I k)]) (fun k => [.box (mD x),.box zM,.box (mX x (Aqk 3) (Aqk 4) (Aqk 5) (Aqk 6) (Aqk 7) (Aqk 8) (Aqk 9) (Aqk 10) nv),.row 1 (els x.Level.Rows),.row 1 (els x.Scripts),.row 23 (els x.Peers),.row 1 (els x.Wires),.row 1 (els x.Paces),.row 1 (els x.Acks),.row 6 (els x.Watchers),.row 10 (els (x.Lines.take k))]) (Yj [0,1,2,3,4,5,6,7,8,9,10] Aqb) ?_
 intro m_M k hk_M
 have hl2:(els (x.Lines.take k)).length=k:=Bq4
 by_cases h3:k<x.Lines.length
 ·have f3:decide ((k:Int)<((els x.Lines).length:Int))=true:=Gqb Aqa 
  have hat:=Y4 h3
  have hm:=Gqe h3
  have hsn:=Zb h3
  generalize x.Lines[k]=u at hat hm hsn
  have cw:=S_l05Copy u (wK u hm)
  refine Wz [41,105,77] ?_;refine AWP.kp [1,1,2,2,3,3,12,0] [] 11 [(0,.box (mD x)),(1,.box zM),(2,.box (mX x (Aqk 3) (Aqk 4) (Aqk 5) (Aqk 6) (Aqk 7) (Aqk 8) (Aqk 9) (Aqk 10) nv))] ?_;refine Xi u8_61 (tt [[],[170,1],[],[172,1],[],[172,3],[172,4],[172,5],[172,6],[170,9],[170,10],[170,11]]) (tt [[172,7],[172,7],[170,2,174,1],[170,2,174,1],[170,4],[170,2],[170,2],[170,2],[170,2],[],[],[]]) J ?_;refine Wz [37,67,132,159] ?_;refine Uq (Kr J J (cw) J J J) J ?_;refine Wz [153,12,122,121,130] ?_
  exact .t (k+1) Bx4
 have f3:decide ((k:Int)<((els x.Lines).length:Int))=false:=Gqa Aqa 
 have hk:x.Lines.take k=x.Lines:=Gqj Aqa 
 rw[hk]
 clear hl2 h3 hk
 refine Wz [41,105,92,30,107] ?_
 refine AWP.pre ?_ (Wk.nilbox (p:=2) (i:=11) 2 J J)
 refine A_lt x.Alarms.length (fun k => [(1,Aqf 0),(2,Aqf 1),(3,Aqf 2),(13,I k)]) (fun k => [.box (mD x),.box zM,.box (mX x (Aqk 3) (Aqk 4) (Aqk 5) (Aqk 6) (Aqk 7) (Aqk 8) (Aqk 9) (Aqk 10) (Aqk 11)),.row 1 (els x.Level.Rows),.row 1 (els x.Scripts),.row 23 (els x.Peers),.row 1 (els x.Wires),.row 1 (els x.Paces),.row 1 (els x.Acks),.row 6 (els x.Watchers),.row 10 (els x.Lines),.row 2 (els (x.Alarms.take k))]) (Yj [0,1,2,3,4,5,6,7,8,9,10,11] Aqb) ?_
 intro m_R k hk_R
 have hl2:(els (x.Alarms.take k)).length=k:=Bq4
 by_cases h3:k<x.Alarms.length
 ·have f3:decide ((k:Int)<((els x.Alarms).length:Int))=true:=Gqb Aqa 
  have hat:=Y4 h3
  have hm:=Gqe h3
  have hsn:=Zb h3
  generalize x.Alarms[k]=u at hat hm hsn
  have hrk:=(Zo (xs:=u.Parts) (wB u hm)).1
  have hlk:=Y7 u.Parts
  obtain⟨tk,u⟩:=u
  refine Wz [41,105,77] ?_;refine AWP.kp [1,1,2,2,3,3,13,0] [] 12 [(0,.box (mD x)),(1,.box zM),(2,.box (mX x (Aqk 3) (Aqk 4) (Aqk 5) (Aqk 6) (Aqk 7) (Aqk 8) (Aqk 9) (Aqk 10) (Aqk 11)))] ?_
  cases u with
  |nil =>
   refine Xi u8_66 u8_67 u8_68 J ?_;refine Wz [37,67,132,192,201,232,67,132,192,201,292] ?_;refine DR.s (x := .o (.ag [jn tk,.sb 12 0 1])) (Ko J J J J Aqb) J J ?_;refine Wz [153,12] ?_;refine AL.weak (Wk.sbnil (q:=12) 1 J J) ?_;refine Wz [122,121,130] ?_
   exact .t (k+1) Bzc
  |cons a rs =>
   have hpos:0<(els (a::rs)).length:=by rw[Y7]; simp
   refine Xi u8_66 u8_67 u8_68 J ?_;refine Wz [37,67,132,192,201,232,67,132,192,201] ?_;refine Uq (q_appz J J J J J J (Y8 _) (Y6 _) hpos Aqa Aqa) J ?_;refine DR.s (x := .o (.ag [jn tk,Aqk 13])) (Ko J J J J Aqb) J J ?_;refine Wz [153,12,122,121,130] ?_
   exact .t (k+1) Bzc
 have f3:decide ((k:Int)<((els x.Alarms).length:Int))=false:=Gqa Aqa 
 have hk:x.Alarms.take k=x.Alarms:=Gqj Aqa 
 rw[hk]
 clear hl2 h3 hk
 refine Wz [41,105,92,30,7,39,73] ?_
 exact Xm J J J J (Yh [3,4,5,6,7,8,9,10,11] Aqc J J J)
end
section
open Tryz
open Go.RowKit

theorem I_PaceOk (q:TPace):Co 159 [] [ag q] [] (B (paceOk q)):=by
 have va_:=@func159; have vb_:=@ntmps159; have vc_:=@Xy; exact Bqo
theorem S_PaceOk (q:TPace):Co 136 [] [ag q] [] (B (paceOk q)):=by
 have va_:=@func136; have vb_:=@ntmps136; have vc_:=@Yg; exact Bqo
section
variable {w:TWire}
theorem wno1 (h:((!inR w.Seed 0 65535 || !inR w.Delay 0 12) || !inR w.Jitter 0 12)=true):wireOk w=false:=Gqa fun ⟨⟨a,b,c⟩,_⟩=>by rw[a,b,c] at h; exact absurd h Aqc 
theorem wno2 (h:((!inR w.Loss 0 100 || !inR w.Copies 0 100) || !inR w.Damage 0 100)=true):wireOk w=false:=Gqa fun ⟨_,⟨a,b,c⟩,_⟩=>by rw[a,b,c] at h; exact absurd h Aqc 
theorem flight_no {f:TFlight} (h:(!inR f.At 0 1100000 || !inR (f.Data.size:Int) 1 20000)=true):flightOk f=false:=by
 rw[flightOk]
 cases h1:inR f.At 0 1100000
 ·rfl
 ·rw[h1] at h; simpa using h
theorem flight_yes {f:TFlight} (h:(!inR f.At 0 1100000 || !inR (f.Data.size:Int) 1 20000)=false):flightOk f=true:=by
 rw[flightOk]
 simpa using h
theorem wire_all (h1:((!inR w.Seed 0 65535 || !inR w.Delay 0 12) || !inR w.Jitter 0 12)=false) (h2:((!inR w.Loss 0 100 || !inR w.Copies 0 100) || !inR w.Damage 0 100)=false) (h3:((!inR w.Now 0 1000000 || !inR w.Sent 0 1000000) || !inR w.Lost 0 1000000)=false) (h4:w.Flights.length≤200) (h5:w.Flights.all flightOk=true):wireOk w=true:=by
 simp only[Gqm,Gq0] at h1 h2 h3
 exact Gqb ⟨⟨h1.1.1,h1.1.2,h1.2⟩,⟨h2.1.1,h2.1.2,h2.2⟩,⟨h3.1.1,h3.1.2,h3.2⟩,h4,h5⟩
theorem wire_S {n:Nat} (h5:w.Flights.all flightOk=true) (hl:n=w.Flights.length):(((((((((decide ((n:Int)≤200)&&inR w.Seed 0 65535)&&inR w.Delay 0 12)&&inR w.Jitter 0 12)&&inR w.Loss 0 100)&&inR w.Copies 0 100)&&inR w.Damage 0 100)&&inR w.Now 0 1000000)&&inR w.Sent 0 1000000)&&inR w.Lost 0 1000000)=wireOk w:=by
 subst hl
 rw[Bool.eq_iff_iff]
 simp only[Gqh,decide_eq_true_eq,wireOk,WireP,h5]
 constructor
 ·intro ⟨⟨⟨⟨⟨⟨⟨⟨⟨a,b⟩,c⟩,d⟩,e⟩,f⟩,g⟩,h⟩,i⟩,j⟩
  exact⟨⟨b,c,d⟩,⟨e,f,g⟩,⟨h,i,j⟩,Aqa,trivial⟩
 ·intro ⟨⟨b,c,d⟩,⟨e,f,g⟩,⟨h,i,j⟩,a,_⟩
  exact⟨⟨⟨⟨⟨⟨⟨⟨⟨Aqa,b⟩,c⟩,d⟩,e⟩,f⟩,g⟩,h⟩,i⟩,j⟩
theorem wno3 (h:((!inR w.Now 0 1000000 || !inR w.Sent 0 1000000) || !inR w.Lost 0 1000000)=true):wireOk w=false:=Gqa fun ⟨_,_,⟨a,b,c⟩,_⟩=>by rw[a,b,c] at h; exact absurd h Aqc 
end
theorem I_WireOk (x:TWire) (hg:Enc.gd x):Co 158 [] [ag x] [] (B (wireOk x)):=by
 obtain⟨gSe,gDe,gJi,gLo,gCo,gDa,gNo,gFl,gSt,gLt⟩:=hg
 have hl:=Y7 x.Flights
 refine Con.o func158 ntmps158 fun E=>?_;refine Wz [43,16,18] ?_;refine kc0 (Xy x.Seed 0 65535) ?_;refine Wz [6,60] ?_;refine zx (Qt.grdF J J J (.hit (.hit .stop)) (fun hgrd=>Qj J J (Xy x.Delay 0 12) J)) J ?_;refine Wz [140,54,60] ?_;refine zx (Qt.grdF J J J (.hit (.hit .stop)) (fun hgrd=>Qj J J (Xy x.Jitter 0 12) J)) J ?_;refine Wz [140,75] ?_
 refine Xb J (fun h1=>?_) (fun h1=>?_)
 ·rw[wno1 h1]
  refine Wz [69] ?_
  exact Bzh
 refine AWP.kp [1,1] [] 1 [(0,.box (Aqi x))] ?_;refine Wz [108,18] ?_;refine kc0 (Xy x.Loss 0 100) ?_;refine Wz [6,60] ?_;refine zx (Qt.grdF J J J (.hit (.hit .stop)) (fun hgrd=>Qj J J (Xy x.Copies 0 100) J)) J ?_;refine Wz [140,54,60] ?_;refine zx (Qt.grdF J J J (.hit (.hit .stop)) (fun hgrd=>Qj J J (Xy x.Damage 0 100) J)) J ?_;refine Wz [140,75] ?_
 refine Xb J (fun h2=>?_) (fun h2=>?_)
 ·rw[wno2 h2]
  refine Wz [69] ?_
  exact Bzh
 refine AWP.kp [1,1] [] 1 [(0,.box (Aqi x))] ?_;refine Wz [108,18] ?_;refine kc0 (Xy x.Now 0 1000000) ?_;refine Wz [6,60] ?_;refine zx (Qt.grdF J J J (.hit (.hit .stop)) (fun hgrd=>Qj J J (Xy x.Sent 0 1000000) J)) J ?_;refine Wz [140,54,60] ?_;refine zx (Qt.grdF J J J (.hit (.hit .stop)) (fun hgrd=>Qj J J (Xy x.Lost 0 1000000) J)) J ?_;refine Wz [140,75] ?_
 refine Xb J (fun h3=>?_) (fun h3=>?_)
 ·rw[wno3 h3]
  refine Wz [69] ?_
  exact Bzh
 refine AWP.kp [1,1] [] 1 [(0,.box (Aqi x))] ?_;refine Wz [108,109,222,1] ?_
 refine Xb J (fun h4=>?_) (fun h4=>?_)
 ·have h4:=Gqc h4
  rw[show wireOk x=false from Gqa fun ⟨_,_,_,q,_⟩=>by omega]
  refine Wz [69] ?_
  exact Bzh
 have h4:=Gqd h4
 refine AWP.kp [1,1] [] 1 [(0,.box (Aqi x))] ?_;refine Wz [108,109,138,34] ?_;refine A_lp x.Flights.length (fun k=>(x.Flights.take k).all flightOk=true) (fun k => [(1,Aqf 0),(58,L x.Flights),(59,I (els x.Flights).length),(60,I k)]) (fun k => [.box (Aqi x)]) Aqd (Yj [0] Aqb) ?_
 intro m_A k hk_A hp_A
 refine Wz [3,58,4] ?_
 refine Xb J (fun h=>?_) (fun h=>?_)
 ·have h5:k<x.Flights.length:=Bqx
  have hat:=Y4 h5
  refine Wz [9,3,78,91,18] ?_;refine kc0 (Xy x.Flights[k].At 0 1100000) ?_;refine Wz [6,60] ?_;refine zx (Qt.grdF J J J (.hit (.hit .stop)) (fun hgrd=>Vd J J J)) J ?_;refine zx (Qt.grdF J J J (.hit (.hit (.hit .stop))) (fun hgrd=>Qj J J (Xy x.Flights[k].Data.size 1 20000) J)) J ?_;refine Wz [262,75] ?_
  refine Xb J (fun h6=>?_) (fun h6=>?_)
  ·rw[show wireOk x=false from Gqa fun ⟨_,_,_,_,q⟩=>by rw[Yp h5 (flight_no h6)] at q; cases q]
   refine Wz [45,57] ?_
   exact Bzh
  ·refine Wz [149,133,301,0,53] ?_
   refine Q0 ?_
   exact .n (k+1) (Yo hp_A h5 (flight_yes h6)) (Yj [0] Aqb)
 have h5:¬((k:Int)<(els x.Flights).length):=Gqd h
 rw[wire_all h1 h2 h3 Aqa (Yn hp_A Aqa)]
 refine Wz [30,101] ?_
 exact Bzh
theorem S_WireOk (x:TWire) (hg:Enc.gd x):Co 73 [] [ag x] [] (B (wireOk x)):=by
 obtain⟨gSe,gDe,gJi,gLo,gCo,gDa,gNo,gFl,gSt,gLt⟩:=hg
 have hl:=Y7 x.Flights
 have hx:=gFl.1
 refine Con.o func73 ntmps73 fun E=>?_;refine Wz [43,16,51] ?_;refine A_lp x.Flights.length (fun k=>(x.Flights.take k).all flightOk=true) (fun k => [(1,Aqf 0),(3,I k)]) (fun k => [.box (Aqi x)]) Aqd (Yj [0] Aqb) ?_
 intro m_A k hk_A hp_A
 refine Wz [41,105,58] ?_
 refine Xb J (fun h=>?_) (fun h=>?_)
 ·have h5:k<x.Flights.length:=Bqx
  have hat:=Y4 h5
  refine Wz [9,65,63,209] ?_;refine kc0 (Yg x.Flights[k].At 0 1100000) ?_;refine Wz [6,60,208,276] ?_;refine zx (Qt.grdF J J J (.hit (.hit (.hit (.hit .stop)))) (fun hgrd=>Kw J J J J Aqc)) J ?_;refine zx (Qt.grdF J J J (.hit (.hit (.hit (.hit (.hit .stop))))) (fun hgrd=>Vf J J J J)) J ?_;refine zx (Qt.grdF J J J (.hit (.hit (.hit (.hit (.hit (.hit .stop)))))) (fun hgrd=>Vd J J J)) J ?_;refine zx (Qt.grdF J J J (.hit (.hit (.hit (.hit (.hit (.hit (.hit .stop))))))) (fun hgrd=>Qj J J (Yg x.Flights[k].Data.size 1 20000) J)) J ?_;refine zx (Qt.grdF J J J (.hit (.hit (.hit (.hit (.hit (.hit (.hit (.hit .stop)))))))) (fun hgrd=>Q4 J J J)) J ?_;refine Wz [75] ?_
  refine Xb J (fun h6=>?_) (fun h6=>?_)
  ·rw[show wireOk x=false from Gqa fun ⟨_,_,_,_,q⟩=>by rw[Yp h5 (flight_no h6)] at q; cases q]
   refine Wz [45,57] ?_
   exact Bzh
  ·refine Wz [149,194,13] ?_
   refine Wz [8] ?_
   exact .n (k+1) (Yo hp_A h5 (flight_yes h6)) (Yj [0] Aqb)
 have h5:¬((k:Int)<(els x.Flights).length):=Gqd h
 have hall:=Yn hp_A Aqa 
 refine Wz [30,109,237,125] ?_;refine zx (Qt.grdT J J J (.hit (.hit .stop)) (fun hgrd=>Qj J J (Yg x.Seed 0 65535) J)) J ?_;refine Wz [66,125] ?_;refine zx (Qt.grdT J J J (.hit (.hit .stop)) (fun hgrd=>Qj J J (Yg x.Delay 0 12) J)) J ?_;refine Wz [66,125] ?_;refine zx (Qt.grdT J J J (.hit (.hit .stop)) (fun hgrd=>Qj J J (Yg x.Jitter 0 12) J)) J ?_;refine Wz [66,125] ?_;refine zx (Qt.grdT J J J (.hit (.hit .stop)) (fun hgrd=>Qj J J (Yg x.Loss 0 100) J)) J ?_;refine Wz [66,125] ?_;refine zx (Qt.grdT J J J (.hit (.hit .stop)) (fun hgrd=>Qj J J (Yg x.Copies 0 100) J)) J ?_;refine Wz [66,125] ?_;refine zx (Qt.grdT J J J (.hit (.hit .stop)) (fun hgrd=>Qj J J (Yg x.Damage 0 100) J)) J ?_;refine Wz [66,125] ?_;refine zx (Qt.grdT J J J (.hit (.hit .stop)) (fun hgrd=>Qj J J (Yg x.Now 0 1000000) J)) J ?_;refine Wz [66,125] ?_;refine zx (Qt.grdT J J J (.hit (.hit .stop)) (fun hgrd=>Qj J J (Yg x.Sent 0 1000000) J)) J ?_;refine Wz [66,125] ?_;refine zx (Qt.grdT J J J (.hit (.hit .stop)) (fun hgrd=>Qj J J (Yg x.Lost 0 1000000) J)) J ?_;refine Wz [66,36] ?_
 exact E_w [] J (Xk (wire_S hall hl))
end
end Go.Proofs.YtalaljeokcpfnaaGreat
