/-
  Rules, data and contracts of functions: part 29 of the proof.
  Conditions: those that each theorem names.
-/
import Derived.Test.YtoecjaohdnoenaaGreatDDLockRowk27
set_option linter.unusedSimpArgs false
set_option linter.unusedVariables false
set_option maxRecDepth 8000
set_option maxHeartbeats 8000000
namespace Go.Proofs.YtoecjaohdnoenaaGreat
section
open Go.RowKit

def flightOk (f:TFlight):Bool:=inR f.At 0 1100000&&inR (f.Data.size:Int) 1 20000
def WireP (w:TWire):Prop :=
 (inR w.Seed 0 65535=true∧inR w.Delay 0 12=true∧inR w.Jitter 0 12=true) ∧
 (inR w.Loss 0 100=true∧inR w.Copies 0 100=true∧inR w.Damage 0 100=true) ∧
 (inR w.Now 0 1000000=true∧inR w.Sent 0 1000000=true∧inR w.Lost 0 1000000=true) ∧
 w.Flights.length≤200∧w.Flights.all flightOk=true
instance (w:TWire):Decidable (WireP w):=by unfold WireP; infer_instance
def wireOk (w:TWire):Bool:=decide (WireP w)
def paceOk (q:TPace):Bool:=(((inR q.Newest 0 1000001&&inR q.Their 0 1000001)&&inR q.At 0 1000001)&&inR q.Trip 0 1000001)&&inR q.Samples 0 1000001
noncomputable def peerIn (m:TMatch) (i:Nat) (p:TPeer):Bool :=
 ((peerOk p&&decide (p.Me=(i:Int)))&&decide ((p.Tracks.length:Int)=(m.Scripts.length:Int)))&&((decide (p.Base.Level=m.Level)&&decide (p.Seed=m.Seed))&&decide (p.Delay=m.Delay))
def PeersP (m:TMatch):Prop:=m.Peers.length=m.Scripts.length∧∀ (i:Nat) p,m.Peers[i]? = some p→peerIn m i p=true
def LinkLen (m:TMatch) (i:Nat):Prop:=∀ ws qs ks,m.Wires[i]? = some ws→m.Paces[i]? = some qs→m.Acks[i]? = some ks→ws.length=m.Peers.length∧qs.length=m.Peers.length∧ks.length=m.Peers.length
def LinkAt (m:TMatch) (i j:Nat):Prop:=∀ ws qs ks p w q a,m.Wires[i]? = some ws→m.Paces[i]? = some qs→m.Acks[i]? = some ks→m.Peers[i]? = some p→ws[j]? = some w→qs[j]? = some q→ks[j]? = some a→wireOk w=true∧paceOk q=true∧inR a 0 (lenAt p.Tracks i:Nat)=true
def LinksP (m:TMatch):Prop :=
 (m.Wires.length=m.Peers.length∧m.Paces.length=m.Peers.length∧m.Acks.length=m.Peers.length) ∧
 ∀ i,i<m.Peers.length→LinkLen m i∧∀ j:Nat,j<m.Peers.length→LinkAt m i j
noncomputable def watcherIn (m:TMatch) (s:TSpectator) (l:TWire):Bool :=
 (wireOk l&&worldOk s.World)&&(decide (s.World.Level=m.Level)&&decide ((s.World.Scores.length:Int)=(m.Scripts.length:Int)))
def WatchersP (m:TMatch):Prop:=(m.Watchers.length≤3∧m.Lines.length=m.Watchers.length)∧∀ (k:Nat) s l,m.Watchers[k]? = some s→m.Lines[k]? = some l→watcherIn m s l=true
def HeadP (m:TMatch):Prop:=levelOk m.Level=true∧inR m.Seed 0 65535=true∧inR m.Delay 0 5=true∧inR m.Clock 0 1000=true∧inR m.Bad 0 1000000=true
def MatchP (m:TMatch):Prop:=HeadP m∧(1≤m.Scripts.length∧m.Scripts.length≤4)∧m.Scripts.all scriptOk=true∧PeersP m∧LinksP m∧WatchersP m
noncomputable def peersM (m:TMatch):Bool:=@decide (PeersP m) (Classical.propDecidable _)
noncomputable def linksM (m:TMatch):Bool:=@decide (LinksP m) (Classical.propDecidable _)
noncomputable def watchersM (m:TMatch):Bool:=@decide (WatchersP m) (Classical.propDecidable _)
noncomputable def matchOk (m:TMatch):Bool:=@decide (MatchP m) (Classical.propDecidable _)
theorem dT {P:Prop} (h:P):@decide P (Classical.propDecidable _)=true:=@decide_eq_true _ (Classical.propDecidable _) h
theorem dF {P:Prop} (h:¬P):@decide P (Classical.propDecidable _)=false:=@decide_eq_false _ (Classical.propDecidable _) h
theorem dS {P:Prop} (h:@decide P (Classical.propDecidable _)=true):P:=@of_decide_eq_true _ (Classical.propDecidable _) h
end
section
open Go.RowKit

def scrT (ss:List (List Int)) (d:Int):List TTrack:=ss.map fun s=>⟨(List.range 400).map fun (t:Nat)=>scriptIn s d t⟩
theorem scrT_row {ss:List (List Int)} {d:Int} {t:Nat} (ht:t<400):rowAt (scrT ss d) t=ss.map fun s=>scriptIn s d t:=by
 simp[rowAt,scrT,inAt,Gqe,ht]
theorem scrT_len {ss:List (List Int)} {d:Int} {t:Nat}:(rowAt (scrT ss d) t).length=ss.length:=by simp[rowAt,scrT]
theorem scrT_next {ss:List (List Int)} {d:Int} {t k:Nat} (ht:t<400) (h:k<ss.length):els ((rowAt (scrT ss d) t).take (k+1))=els ((rowAt (scrT ss d) t).take k) ++ [Enc.e (scriptIn ss[k] d t)]:=by
 rw[els_snoc (by rw[scrT_len]; exact h)]
 simp[scrT_row ht]
theorem script_rng {s:List Int} {d t:Int} (h:scriptOk s=true) (hd:inR d 0 5=true) (h0:0≤t):0≤scriptIn s d t∧scriptIn s d t≤15:=by
 by_cases h1:t<d
 ·rw[script_lo h hd h0 h1]; omega
 ·obtain⟨hi,_,_,h4⟩:=script_at h hd h0 h1
  rw[h4]
  unfold scriptOk inOk at h
  simp only[Gqh,Gqm] at h
  have:=h.2 _ (Gqg hi)
  simpa[Yq] using this
theorem scrT_gd {ss:List (List Int)} {d:Int} (hl:ss.length≤4) (hA:ss.all scriptOk=true) (hd:inR d 0 5=true) (t:Nat):Enc.gd (rowAt (scrT ss d) t):=by
 refine⟨by rw[scrT_len]; omega,fun x hx => ?_⟩
 obtain⟨y,hy,rfl⟩:=Gqx.1 hx
 obtain⟨s,hs,rfl⟩:=Gqx.1 hy
 have ho:=Gqm.1 hA s hs
 unfold inAt
 rw[Gqe]
 cases hz:((List.range 400).map fun (t:Nat)=>scriptIn s d t)[t]? with
 |none=>exact⟨by simp,by simp⟩
 |some z =>
  obtain⟨k,_,rfl⟩:=Gqx.1 (Gqo hz)
  have:=script_rng (t:=(k:Int)) ho hd (by omega)
  exact⟨by show (-9223372036854775808:Int)≤scriptIn s d k; omega,by show scriptIn s d k≤(9223372036854775807:Int); omega⟩
noncomputable def lockM (m:TMatch) (f:TFault) (t:Nat):TWorld:=runF m.Level m.Scripts.length m.Seed (scrT m.Scripts m.Delay) f t
theorem lock_fit {m:TMatch} (g:Enc.gd m.Level) (ll:m.Level.Rows.length≤1048576) (ok:MatchP m) (f:TFault) (t:Nat):Fit m.Scripts.length m.Level (lockM m f t) :=
 runF_fit ok.1.1 g ll ok.2.1 ok.1.2.1 t
end
section
open Go.RowKit

theorem row_at2 {o:Ob} {w:Nat} {a b:List (List T)} (h:a=b) : [o,.row w a] = [o,.row w b]:=by rw[h]
theorem I_ScriptRows (ss:List (List Int)) (d:Int) (t:Nat) (g:Enc.gd ss) (hl:1≤ss.length∧ss.length≤4) (hA:ss.all scriptOk=true) (hd:inR d 0 5=true) (ht:t≤400):Con Tryz.prog 139 [] [al ss,ai d,ai t] [.row 1 (els (rowsOf (scrT ss d) t))] (.o (.c (.ref 0))):=by
 have hls:=Yc ss
 have c1:=Xr (t:Int) 0 400
 rw[Yq.2 ⟨by omega,by omega⟩] at c1
 have f1:decide (((els ss).length:Int)<1)=false:=Gqa (by omega)
 have f2:decide ((4:Int)<((els ss).length:Int))=false:=Gqa (by omega)
 refine Con.of Tryz.func139 J Tryz.ntmps139 J (fun E => ?_)
 refine Wz [57,10,15,28,10,3,126,7,28] ?_;refine zx (Qj J J (c1) J) J ?_;refine Wz [3,2,7,9,75,10,133,76] ?_;refine Xj (fun m st=>∃ j:Nat,j+m=ss.length∧(True)∧st=(⟨_,[(0,L ss),(1,I d),(2,I t),(27,L ss),(28,I (els ss).length),(29,I j)],[]⟩:St)) (ss.length) ⟨_,⟨0,by omega,trivial,J⟩,Ux []⟩ ?_
 rintro m_B _ ⟨j,hk_B,hp_B,rfl⟩
 by_cases h3:j<ss.length
 ·have f3:decide ((j:Int)<((els ss).length:Int))=true:=Gqb (by omega)
  have hat:=Yb h3
  have ho:=Gqm.1 hA _ (Gqg h3)
  have c2:=I_ScriptInput ss[j] d 0 (g.2 _ (Gqg h3)) ⟨by omega,by omega⟩
  have hr:=script_rng (t:=0) ho hd (Int.le_refl 0)
  have f4:decide (scriptIn ss[j] d 0<0)=false:=Gqa (by omega)
  refine Wz [5,15,6,14,82,8,5,47,4,17] ?_;refine zx (Qj J J (c2) J) J ?_;refine Wz [15,132,100] ?_
  exact⟨ss.length-(j+1),by omega,_,⟨j+1,by omega,trivial,J⟩,Ux []⟩
 have f3:decide ((j:Int)<((els ss).length:Int))=false:=Gqa (by omega)
 refine Wz [5,15,6,14,166,38,22,26] ?_
 refine AWP.pre ?_ (W_nil 9 1 J)
 refine Xj (fun m st=>∃ k:Nat,k+m=t∧(True)∧st=(⟨_,[(0,L ss),(1,I d),(2,I t),(9,.o (.c (.ref 0))),(10,I k)],[.row 1 (els (rowsOf (scrT ss d) k))]⟩:St)) (t) ⟨_,⟨0,by omega,trivial,J⟩,Ux [0]⟩ ?_
 rintro m_A _ ⟨k,hk_A,hp_A,rfl⟩
 have hl2:(els (rowsOf (scrT ss d) k)).length=k:=by rw[Yc]; simp[rowsOf]
 by_cases h3:k<t
 ·have f3:decide ((k:Int)<(t:Int))=true:=Gqb (by omega)
  refine Wz [13,59,8,57,10,133,76] ?_
  refine AWP.pre ?_ (W_nil 11 1 J)
  refine Xj (fun m st=>∃ i:Nat,i+m=ss.length∧(True)∧st=(⟨_,[(0,L ss),(1,I d),(2,I t),(9,.o (.c (.ref 0))),(10,I k),(11,.o (.c (.ref 1))),(43,L ss),(44,I (els ss).length),(45,I i)],[.row 1 (els (rowsOf (scrT ss d) k)),.row 1 (els ((rowAt (scrT ss d) k).take i))]⟩:St)) (ss.length) ⟨_,⟨0,by omega,trivial,J⟩,Ux [0,1]⟩ ?_
  rintro m_C _ ⟨i,hk_C,hp_C,rfl⟩
  have hl3:(els ((rowAt (scrT ss d) k).take i)).length=i:=by rw[Yc]; simp[rowAt,scrT]; omega
  by_cases h4:i<ss.length
  ·have f4:decide ((i:Int)<((els ss).length:Int))=true:=Gqb (by omega)
   have hat:=Yb h4
   have c3:=I_ScriptInput ss[i] d k (g.2 _ (Gqg h4)) ⟨by omega,by omega⟩
   refine Wz [5,15,6,14,82,8,5,47,4,23,43,43] ?_;refine zx (Qj J J (c3) J) J ?_;refine Wz [125,298,87,89,100] ?_
   exact⟨ss.length-(i+1),by omega,(fun i:Nat=>(⟨_,[(0,L ss),(1,I d),(2,I t),(9,.o (.c (.ref 0))),(10,I k),(11,.o (.c (.ref 1))),(43,L ss),(44,I (els ss).length),(45,I i)],[.row 1 (els (rowsOf (scrT ss d) k)),.row 1 (els ((rowAt (scrT ss d) k).take i))]⟩:St)) (i+1),⟨i+1,by omega,trivial,J⟩,Up [0,1] J (row_at2 (scrT_next (k:=i) (t:=k) (d:=d) (by omega) h4)) (.c J (.c J (.c J (.c J (.c J (.c J (.c J (.c J (.c J (.nil))))))))))⟩
  have f4:decide ((i:Int)<((els ss).length:Int))=false:=Gqa (by omega)
  have hk:(rowAt (scrT ss d) k).take i=rowAt (scrT ss d) k:=Gqk (by rw[scrT_len]; omega)
  rw[hk]
  refine Wz [5,15,6,14,166,150,147,43,125,135,99] ?_
  exact⟨t-(k+1),by omega,(fun k:Nat=>(⟨_,[(0,L ss),(1,I d),(2,I t),(9,.o (.c (.ref 0))),(10,I k)],[.row 1 (els (rowsOf (scrT ss d) k))]⟩:St)) (k+1),⟨k+1,by omega,trivial,J⟩,Up [0] J (Kb rowsOf_next) (.c J (.c J (.c J (.c J (.c J (.nil))))))⟩
 have f3:decide ((k:Int)<(t:Int))=false:=Gqa (by omega)
 have hkt:k=t:=by omega
 subst hkt
 refine Wz [13,15,102,54] ?_
 exact Uq J (Ur [0] J J J)
theorem S_ScriptRows (ss:List (List Int)) (d:Int) (t:Nat) (g:Enc.gd ss) (hl:1≤ss.length∧ss.length≤4) (hA:ss.all scriptOk=true) (hd:inR d 0 5=true) (ht:t≤400):Con Tryz.prog 135 [] [al ss,ai d,ai t] [.row 1 (els (rowsOf (scrT ss d) t))] (.o (.c (.ref 0))):=by
 have hls:=Yc ss
 have c0:=Xy ((els ss).length:Int) 1 4
 rw[Yq.2 ⟨by omega,by omega⟩] at c0
 have c1:=Xy (t:Int) 0 400
 rw[Yq.2 ⟨by omega,by omega⟩] at c1
 refine Con.of Tryz.func135 J Tryz.ntmps135 J (fun E => ?_)
 refine Wz [22,5,228,66,10] ?_;refine zx (Qj J J (c0) J) J ?_;refine Wz [2,28] ?_;refine zx (Qj J J (c1) J) J ?_;refine Wz [3,2,7,9,26] ?_;refine Xj (fun m st=>∃ k:Nat,k+m=t∧(True)∧st=(⟨_,[(0,L ss),(1,I d),(2,I t),(7,.o (.c (.ref 0))),(8,I k)],[.row 1 (els (rowsOf (scrT ss d) k))]⟩:St)) (t) ⟨_,⟨0,by omega,trivial,J⟩,Ux [0]⟩ ?_
 rintro m_A _ ⟨k,hk_A,hp_A,rfl⟩
 have hl2:(els (rowsOf (scrT ss d) k)).length=k:=by rw[Yc]; simp[rowsOf]
 by_cases h3:k<t
 ·have f3:decide ((k:Int)<(t:Int))=true:=Gqb (by omega)
  refine Wz [13,59,8,5,228,4,26] ?_;refine Xj (fun m st=>∃ i:Nat,i+m=ss.length∧(True)∧st=(⟨_,[(0,L ss),(1,I d),(2,I t),(7,.o (.c (.ref 0))),(8,I k),(9,.o (.c (.ref 1))),(10,I i)],[.row 1 (els (rowsOf (scrT ss d) k)),.row 1 (els ((rowAt (scrT ss d) k).take i))]⟩:St)) (ss.length) ⟨_,⟨0,by omega,trivial,J⟩,Ux [0,1]⟩ ?_
  rintro m_C _ ⟨i,hk_C,hp_C,rfl⟩
  have hl3:(els ((rowAt (scrT ss d) k).take i)).length=i:=by rw[Yc]; simp[rowAt,scrT]; omega
  by_cases h4:i<ss.length
  ·have f4:decide ((i:Int)<((els ss).length:Int))=true:=Gqb (by omega)
   have hat:=Yb h4
   have ho:=Gqm.1 hA _ (Gqg h4)
   have c3:=S_ScriptInput ss[i] d k (g.2 _ (Gqg h4)) ⟨by omega,by omega⟩
   have hr:=script_rng (t:=(k:Int)) ho hd (by omega)
   have f5:decide (scriptIn ss[i] d k<0)=false:=Gqa (by omega)
   refine Wz [13,10,59,8,17,47,43] ?_;refine zx (Qj J J (c3) J) J ?_;refine Wz [118,23,43,125,298,99] ?_
   exact⟨ss.length-(i+1),by omega,(fun i:Nat=>(⟨_,[(0,L ss),(1,I d),(2,I t),(7,.o (.c (.ref 0))),(8,I k),(9,.o (.c (.ref 1))),(10,I i)],[.row 1 (els (rowsOf (scrT ss d) k)),.row 1 (els ((rowAt (scrT ss d) k).take i))]⟩:St)) (i+1),⟨i+1,by omega,trivial,J⟩,Up [0,1] J (row_at2 (scrT_next (k:=i) (t:=k) (d:=d) (by omega) h4)) (.c J (.c J (.c J (.c J (.c J (.c J (.c J (.nil))))))))⟩
  have f4:decide ((i:Int)<((els ss).length:Int))=false:=Gqa (by omega)
  have hk:(rowAt (scrT ss d) k).take i=rowAt (scrT ss d) k:=Gqk (by rw[scrT_len]; omega)
  rw[hk]
  refine Wz [13,10,15,102,150,147,43,125,135,99] ?_
  exact⟨t-(k+1),by omega,(fun k:Nat=>(⟨_,[(0,L ss),(1,I d),(2,I t),(7,.o (.c (.ref 0))),(8,I k)],[.row 1 (els (rowsOf (scrT ss d) k))]⟩:St)) (k+1),⟨k+1,by omega,trivial,J⟩,Up [0] J (Kb rowsOf_next) (.c J (.c J (.c J (.c J (.c J (.nil))))))⟩
 have f3:decide ((k:Int)<(t:Int))=false:=Gqa (by omega)
 have hkt:k=t:=by omega
 subst hkt
 refine Wz [13,15,102,54] ?_
 exact Uq J (Ur [0] J J J)
end
section
open Go.RowKit

theorem I_PaceOk (q:TPace):Con Tryz.prog 229 [] [ag q] [] (B (paceOk q)):=by
 refine Con.of Tryz.func229 J Tryz.ntmps229 J (fun E => ?_)
 refine Wz [36,29] ?_;refine zx (Qj J J (Xr q.Newest 0 1000001) J) J ?_;refine Wz [80] ?_;refine zx (Qt.grdT J J J (.hit (.hit .stop)) (fun hgrd=>Qj J J (Xr q.Their 0 1000001) J)) J ?_;refine Wz [42,80] ?_;refine zx (Qt.grdT J J J (.hit (.hit .stop)) (fun hgrd=>Qj J J (Xr q.At 0 1000001) J)) J ?_;refine Wz [42,80] ?_;refine zx (Qt.grdT J J J (.hit (.hit .stop)) (fun hgrd=>Qj J J (Xr q.Trip 0 1000001) J)) J ?_;refine Wz [42,80] ?_;refine zx (Qt.grdT J J J (.hit (.hit .stop)) (fun hgrd=>Qj J J (Xr q.Samples 0 1000001) J)) J ?_;refine Wz [42,85] ?_
 exact Uq J (Ur [] J J J)
theorem S_PaceOk (q:TPace):Con Tryz.prog 226 [] [ag q] [] (B (paceOk q)):=by
 refine Con.of Tryz.func226 J Tryz.ntmps226 J (fun E => ?_)
 refine Wz [36,29] ?_;refine zx (Qj J J (Xy q.Newest 0 1000001) J) J ?_;refine Wz [80] ?_;refine zx (Qt.grdT J J J (.hit (.hit .stop)) (fun hgrd=>Qj J J (Xy q.Their 0 1000001) J)) J ?_;refine Wz [42,80] ?_;refine zx (Qt.grdT J J J (.hit (.hit .stop)) (fun hgrd=>Qj J J (Xy q.At 0 1000001) J)) J ?_;refine Wz [42,80] ?_;refine zx (Qt.grdT J J J (.hit (.hit .stop)) (fun hgrd=>Qj J J (Xy q.Trip 0 1000001) J)) J ?_;refine Wz [42,80] ?_;refine zx (Qt.grdT J J J (.hit (.hit .stop)) (fun hgrd=>Qj J J (Xy q.Samples 0 1000001) J)) J ?_;refine Wz [42,85] ?_
 exact Uq J (Ur [] J J J)
section
variable {w:TWire}
theorem wno1 (h:((!inR w.Seed 0 65535 || !inR w.Delay 0 12) || !inR w.Jitter 0 12)=true):wireOk w=false:=Gqa fun ⟨⟨a,b,c⟩,_⟩=>by rw[a,b,c] at h; exact absurd h (by decide)
theorem wno2 (h:((!inR w.Loss 0 100 || !inR w.Copies 0 100) || !inR w.Damage 0 100)=true):wireOk w=false:=Gqa fun ⟨_,⟨a,b,c⟩,_⟩=>by rw[a,b,c] at h; exact absurd h (by decide)
theorem flight_no {f:TFlight} (h:(!inR f.At 0 1100000 || !inR (f.Data.size:Int) 1 20000)=true):flightOk f=false:=by
 rw[flightOk]
 cases h1:inR f.At 0 1100000
 ·rfl
 ·rw[h1] at h; simpa using h
theorem flight_yes {f:TFlight} (h:(!inR f.At 0 1100000 || !inR (f.Data.size:Int) 1 20000)=false):flightOk f=true:=by
 rw[flightOk]
 simpa using h
theorem wire_all (h1:((!inR w.Seed 0 65535 || !inR w.Delay 0 12) || !inR w.Jitter 0 12)=false) (h2:((!inR w.Loss 0 100 || !inR w.Copies 0 100) || !inR w.Damage 0 100)=false) (h3:((!inR w.Now 0 1000000 || !inR w.Sent 0 1000000) || !inR w.Lost 0 1000000)=false) (h4:w.Flights.length≤200) (h5:w.Flights.all flightOk=true):wireOk w=true:=by
 simp only[Gqn,Gqz] at h1 h2 h3
 exact Gqb ⟨⟨h1.1.1,h1.1.2,h1.2⟩,⟨h2.1.1,h2.1.2,h2.2⟩,⟨h3.1.1,h3.1.2,h3.2⟩,h4,h5⟩
theorem wire_S {n:Nat} (h5:w.Flights.all flightOk=true) (hl:n=w.Flights.length):(((((((((decide ((n:Int)≤200)&&inR w.Seed 0 65535)&&inR w.Delay 0 12)&&inR w.Jitter 0 12)&&inR w.Loss 0 100)&&inR w.Copies 0 100)&&inR w.Damage 0 100)&&inR w.Now 0 1000000)&&inR w.Sent 0 1000000)&&inR w.Lost 0 1000000)=wireOk w:=by
 subst hl
 rw[Bool.eq_iff_iff]
 simp only[Gqh,decide_eq_true_eq,wireOk,WireP,h5]
 constructor
 ·intro ⟨⟨⟨⟨⟨⟨⟨⟨⟨a,b⟩,c⟩,d⟩,e⟩,f⟩,g⟩,h⟩,i⟩,j⟩
  exact⟨⟨b,c,d⟩,⟨e,f,g⟩,⟨h,i,j⟩,by omega,trivial⟩
 ·intro ⟨⟨b,c,d⟩,⟨e,f,g⟩,⟨h,i,j⟩,a,_⟩
  exact⟨⟨⟨⟨⟨⟨⟨⟨⟨by omega,b⟩,c⟩,d⟩,e⟩,f⟩,g⟩,h⟩,i⟩,j⟩
theorem wno3 (h:((!inR w.Now 0 1000000 || !inR w.Sent 0 1000000) || !inR w.Lost 0 1000000)=true):wireOk w=false:=Gqa fun ⟨_,_,⟨a,b,c⟩,_⟩=>by rw[a,b,c] at h; exact absurd h (by decide)
end
theorem I_WireOk (x:TWire) (hg:Enc.gd x):Con Tryz.prog 64 [] [ag x] [] (B (wireOk x)):=by
 obtain⟨gSe,gDe,gJi,gLo,gCo,gDa,gNo,gFl,gSt,gLt⟩:=hg
 have hl:=Yc x.Flights
 refine Con.of Tryz.func64 J Tryz.ntmps64 J (fun E => ?_)
 refine Wz [36,31] ?_;refine zx (Qj J J (Xr x.Seed 0 65535) J) J ?_;refine Wz [2,35] ?_;refine zx (Vb J (.hit (.hit .stop)) (fun hgrd=>Qj J J (Xr x.Delay 0 12) J)) J ?_;refine Wz [109,34,35] ?_;refine zx (Vb J (.hit (.hit .stop)) (fun hgrd=>Qj J J (Xr x.Jitter 0 12) J)) J ?_;refine Wz [109,70] ?_
 refine Xb J (fun h1 => ?_) (fun h1 => ?_)
 ·rw[wno1 h1]
  refine Wz [52] ?_
  exact Uq J (Ur [] J J J)
 refine AWP.pre (st':=(⟨_,[(1,.o (.c (.ptr 0 0)))],[.box ((Enc.e x).map (V1.rd []))]⟩:St)) ?_ (Ux [0])
 refine Wz [25,31] ?_;refine zx (Qj J J (Xr x.Loss 0 100) J) J ?_;refine Wz [2,35] ?_;refine zx (Vb J (.hit (.hit .stop)) (fun hgrd=>Qj J J (Xr x.Copies 0 100) J)) J ?_;refine Wz [109,34,35] ?_;refine zx (Vb J (.hit (.hit .stop)) (fun hgrd=>Qj J J (Xr x.Damage 0 100) J)) J ?_;refine Wz [109,70] ?_
 refine Xb J (fun h2 => ?_) (fun h2 => ?_)
 ·rw[wno2 h2]
  refine Wz [52] ?_
  exact Uq J (Ur [] J J J)
 refine AWP.pre (st':=(⟨_,[(1,.o (.c (.ptr 0 0)))],[.box ((Enc.e x).map (V1.rd []))]⟩:St)) ?_ (Ux [0])
 refine Wz [25,31] ?_;refine zx (Qj J J (Xr x.Now 0 1000000) J) J ?_;refine Wz [2,35] ?_;refine zx (Vb J (.hit (.hit .stop)) (fun hgrd=>Qj J J (Xr x.Sent 0 1000000) J)) J ?_;refine Wz [109,34,35] ?_;refine zx (Vb J (.hit (.hit .stop)) (fun hgrd=>Qj J J (Xr x.Lost 0 1000000) J)) J ?_;refine Wz [109,70] ?_
 refine Xb J (fun h3 => ?_) (fun h3 => ?_)
 ·rw[wno3 h3]
  refine Wz [52] ?_
  exact Uq J (Ur [] J J J)
 refine AWP.pre (st':=(⟨_,[(1,.o (.c (.ptr 0 0)))],[.box ((Enc.e x).map (V1.rd []))]⟩:St)) ?_ (Ux [0])
 refine Wz [25,31,10,234,6] ?_
 refine Xb J (fun h4 => ?_) (fun h4 => ?_)
 ·have h4:=Gqc h4
  rw[show wireOk x=false from Gqa fun ⟨_,_,_,q,_⟩=>by omega]
  refine Wz [52] ?_
  exact Uq J (Ur [] J J J)
 have h4:=Gqd h4
 refine AWP.pre (st':=(⟨_,[(1,.o (.c (.ptr 0 0)))],[.box ((Enc.e x).map (V1.rd []))]⟩:St)) ?_ (Ux [0])
 refine Wz [25,31,10,133,76] ?_;refine Xj (fun m st=>∃ k:Nat,k+m=x.Flights.length∧((x.Flights.take k).all flightOk=true)∧st=(⟨_,[(1,.o (.c (.ptr 0 0))),(58,L x.Flights),(59,I (els x.Flights).length),(60,I k)],[.box ((Enc.e x).map (V1.rd []))]⟩:St)) (x.Flights.length) ⟨_,⟨0,by omega,by simp,J⟩,Ux [0]⟩ ?_
 rintro m_A _ ⟨k,hk_A,hp_A,rfl⟩
 refine Wz [5,63,14] ?_
 refine Xb J (fun h => ?_) (fun h => ?_)
 ·have h5:k<x.Flights.length:=by have:=Gqc h; omega
  have hat:=Yb h5
  refine Wz [8,5,69,46,20,29] ?_;refine zx (Qj J J (Xr x.Flights[k].At 0 1100000) J) J ?_;refine Wz [2,35] ?_;refine zx (Vb J (.hit (.hit .stop)) (fun hgrd=>Zw J J J)) J ?_;refine zx (Vb J (.hit (.hit (.hit .stop))) (fun hgrd=>Qj J J (Xr x.Flights[k].Data.size 1 20000) J)) J ?_;refine Wz [283,70] ?_
  refine Xb J (fun h6 => ?_) (fun h6 => ?_)
  ·rw[show wireOk x=false from Gqa fun ⟨_,_,_,_,q⟩=>by rw[all_no h5 (flight_no h6)] at q; cases q]
   refine Wz [67] ?_
   exact Uq J (Ur [] J J J)
  ·refine Wz [134,204,123,0,89] ?_
   refine Q0 ?_
   exact⟨x.Flights.length-(k+1),by omega,_,⟨k+1,by omega,X7 hp_A h5 (flight_yes h6),J⟩,Ux [0]⟩
 have h5:¬((k:Int)<(els x.Flights).length):=Gqd h
 rw[wire_all h1 h2 h3 (by omega) (Gl hp_A)]
 refine Wz [38,72] ?_
 exact Uq J (Ur [] J J J)
theorem S_WireOk (x:TWire) (hg:Enc.gd x):Con Tryz.prog 57 [] [ag x] [] (B (wireOk x)):=by
 obtain⟨gSe,gDe,gJi,gLo,gCo,gDa,gNo,gFl,gSt,gLt⟩:=hg
 have hl:=Yc x.Flights
 have hx:=gFl.1
 refine Con.of Tryz.func57 J Tryz.ntmps57 J (fun E => ?_)
 refine Wz [36,26] ?_;refine Xj (fun m st=>∃ k:Nat,k+m=x.Flights.length∧((x.Flights.take k).all flightOk=true)∧st=(⟨_,[(1,.o (.c (.ptr 0 0))),(3,I k)],[.box ((Enc.e x).map (V1.rd []))]⟩:St)) (x.Flights.length) ⟨_,⟨0,by omega,by simp,J⟩,Ux [0]⟩ ?_
 rintro m_A _ ⟨k,hk_A,hp_A,rfl⟩
 refine Wz [75,21,238] ?_
 refine Xb J (fun h => ?_) (fun h => ?_)
 ·have h5:k<x.Flights.length:=by have:=Gqc h; omega
  have hat:=Yb h5
  refine Wz [8,62,148,174,154] ?_;refine zx (Qj J J (Xy x.Flights[k].At 0 1100000) J) J ?_;refine Wz [2,35,176,254] ?_;refine zx (Vb J (.hit (.hit (.hit (.hit .stop)))) (fun hgrd=>Zq J J J J (by decide))) J ?_;refine zx (Vb J (.hit (.hit (.hit (.hit (.hit .stop))))) (fun hgrd=>Zy J J J J)) J ?_;refine zx (Vb J (.hit (.hit (.hit (.hit (.hit (.hit .stop)))))) (fun hgrd=>Zw J J J)) J ?_;refine zx (Vb J (.hit (.hit (.hit (.hit (.hit (.hit (.hit .stop))))))) (fun hgrd=>Qj J J (Xy x.Flights[k].Data.size 1 20000) J)) J ?_;refine zx (Vb J (.hit (.hit (.hit (.hit (.hit (.hit (.hit (.hit .stop)))))))) (fun hgrd=>Q4 J J J)) J ?_;refine Wz [70] ?_
  refine Xb J (fun h6 => ?_) (fun h6 => ?_)
  ·rw[show wireOk x=false from Gqa fun ⟨_,_,_,_,q⟩=>by rw[all_no h5 (flight_no h6)] at q; cases q]
   refine Wz [67] ?_
   exact Uq J (Ur [] J J J)
  ·refine Wz [134,206,123] ?_
   refine Wz [4] ?_
   exact⟨x.Flights.length-(k+1),by omega,_,⟨k+1,by omega,X7 hp_A h5 (flight_yes h6),J⟩,Ux [0]⟩
 have h5:¬((k:Int)<(els x.Flights).length):=Gqd h
 have hall:=Gl hp_A
 refine Wz [38,29,10,211,80] ?_;refine zx (Qt.grdT J J J (.hit (.hit .stop)) (fun hgrd=>Qj J J (Xy x.Seed 0 65535) J)) J ?_;refine Wz [42,80] ?_;refine zx (Qt.grdT J J J (.hit (.hit .stop)) (fun hgrd=>Qj J J (Xy x.Delay 0 12) J)) J ?_;refine Wz [42,80] ?_;refine zx (Qt.grdT J J J (.hit (.hit .stop)) (fun hgrd=>Qj J J (Xy x.Jitter 0 12) J)) J ?_;refine Wz [42,80] ?_;refine zx (Qt.grdT J J J (.hit (.hit .stop)) (fun hgrd=>Qj J J (Xy x.Loss 0 100) J)) J ?_;refine Wz [42,80] ?_;refine zx (Qt.grdT J J J (.hit (.hit .stop)) (fun hgrd=>Qj J J (Xy x.Copies 0 100) J)) J ?_;refine Wz [42,80] ?_;refine zx (Qt.grdT J J J (.hit (.hit .stop)) (fun hgrd=>Qj J J (Xy x.Damage 0 100) J)) J ?_;refine Wz [42,80] ?_;refine zx (Qt.grdT J J J (.hit (.hit .stop)) (fun hgrd=>Qj J J (Xy x.Now 0 1000000) J)) J ?_;refine Wz [42,80] ?_;refine zx (Qt.grdT J J J (.hit (.hit .stop)) (fun hgrd=>Qj J J (Xy x.Sent 0 1000000) J)) J ?_;refine Wz [42,80] ?_;refine zx (Qt.grdT J J J (.hit (.hit .stop)) (fun hgrd=>Qj J J (Xy x.Lost 0 1000000) J)) J ?_;refine Wz [42,85] ?_
 exact Uq J (Ur [] J J (Xk (wire_S hall hl)))
end
section
open Go.RowKit

section
variable {m:TMatch} {k:Nat} {p:TPeer}
theorem pin_spec (h:peerIn m k p=true):(peerOk p=true∧p.Me=(k:Int)∧(p.Tracks.length:Int)=(m.Scripts.length:Int))∧p.Base.Level=m.Level∧p.Seed=m.Seed∧p.Delay=m.Delay:=by
 simp only[peerIn,Gqh,decide_eq_true_eq] at h
 exact⟨⟨h.1.1.1,h.1.1.2,h.1.2⟩,h.2.1.1,h.2.1.2,h.2.2⟩
theorem pin_no1 (h:((!peerOk p || decide (p.Me≠(k:Int))) || decide (((els p.Tracks).length:Int)≠((els m.Scripts).length:Int)))=true):¬peerIn m k p=true:=fun hp=>by
 obtain⟨⟨a,b,c⟩,_⟩:=pin_spec hp
 rw[a,Gqa (fun q=>q b),Yc,Yc,Gqa (fun q=>q c)] at h
 exact absurd h (by decide)
theorem pin_no2 (h:((!decide (p.Base.Level=m.Level) || decide (p.Seed≠m.Seed)) || decide (p.Delay≠m.Delay))=true):¬peerIn m k p=true:=fun hp=>by
 obtain⟨_,a,b,c⟩:=pin_spec hp
 rw[Gqb a,Gqa (fun q=>q b),Gqa (fun q=>q c)] at h
 exact absurd h (by decide)
theorem pin_yes (h:((!peerOk p || decide (p.Me≠(k:Int))) || decide (((els p.Tracks).length:Int)≠((els m.Scripts).length:Int)))=false) (h2:((!decide (p.Base.Level=m.Level) || decide (p.Seed≠m.Seed)) || decide (p.Delay≠m.Delay))=false):peerIn m k p=true:=by
 simp only[Gqn,Gqz,decide_eq_false_iff_not,Classical.not_not,decide_eq_true_eq,Yc] at h h2
 simp only[peerIn,Gqh,decide_eq_true_eq]
 exact⟨⟨⟨h.1.1,h.1.2⟩,h.2⟩,⟨h2.1.1,h2.1.2⟩,h2.2⟩
theorem Kn {Q:Nat→Prop} (h:∀ i,i<k→Q i) (hk:Q k):∀ i,i<k+1→Q i:=fun i hi=>by
 by_cases e:i=k
 ·subst e; exact hk
 ·exact h i (by omega)
end
theorem I_peersOk (x:TMatch) (hg:Enc.gd x):Con Tryz.prog 165 [] [ag x] [] (B (peersM x)):=by
 obtain⟨gL,gS,gD,gSc,gP,gW,gPa,gA,gC,gWa,gLi,gAl,gB⟩:=hg
 have hlp:=Yc x.Peers
 have hx:=gP.1
 have hls:=Yc x.Scripts
 refine Con.of Tryz.func165 J Tryz.ntmps165 J (fun E => ?_)
 refine Wz [36,31,10,21,10,131,6] ?_
 refine Xb J (fun h1 => ?_) (fun h1 => ?_)
 ·have h1:=Gqc h1
  rw[show peersM x=false from dF fun hp=>h1 (by rw[hlp,hls,hp.1])]
  refine Wz [52] ?_
  exact Uq J (Ur [] J J J)
 have h1:x.Peers.length=x.Scripts.length:=by have:=Gqd h1; omega
 refine AWP.pre (st':=(⟨_,[(1,.o (.c (.ptr 0 0)))],[.box ((Enc.e x).map (V1.rd []))]⟩:St)) ?_ (Ux [0])
 refine Wz [25,31,10,133,76] ?_;refine Xj (fun m st=>∃ k:Nat,k+m=x.Peers.length∧((∀ i,i<k→∀ p,x.Peers[i]? = some p→peerIn x i p=true))∧st=(⟨_,[(1,.o (.c (.ptr 0 0))),(13,L x.Peers),(14,I (els x.Peers).length),(15,I k)],[.box ((Enc.e x).map (V1.rd []))]⟩:St)) (x.Peers.length) ⟨_,⟨0,by omega,fun i hi=>absurd hi (Nat.not_lt_zero _),J⟩,Ux [0]⟩ ?_
 rintro m_A _ ⟨k,hk_A,hp_A,rfl⟩
 refine Wz [5,63,14] ?_
 refine Xb J (fun h => ?_) (fun h => ?_)
 ·have h3:k<x.Peers.length:=by have:=Gqc h; omega
  have hat:=Yb h3
  have hq:=Gqf h3
  have gp:=gP.2 _ (Gqg h3)
  generalize x.Peers[k]=p at hat hq gp
  have c1:=I_PeerOk p gp
  have c2:=I_sameLevel p.Base.Level x.Level gp.2.2.2.2.2.1.1
  repeat (first | refine Qd ?_ | refine Qh ?_ | refine Qk ?_ | refine Q0 ?_)
  refine Wz [23,0,69] ?_;refine AL.weak (st':=(⟨_,[(1,.o (.c (.ptr 0 0))),(13,L x.Peers),(14,I (els x.Peers).length),(15,I k),(17,I k),(19,.o (.ag ((Enc.e p).map (V1.rd []))))],[.box ((Enc.e x).map (V1.rd []))]⟩:St)) (Up [0] J (by kernel_rfl) (.c J (.c J (.c J (.c J (.c J (.cons (by kernel_rfl) (.nil)))))))) ?_;refine Wz [46,87,110] ?_;refine AL.weak (st':=(⟨_,[(1,.o (.c (.ptr 0 0))),(13,L x.Peers),(14,I (els x.Peers).length),(15,I k),(3,I k),(4,.o (.c (.ptr 1 0)))],[.box ((Enc.e x).map (V1.rd [])),.box ((Enc.e p).map (V1.rd []))]⟩:St)) (Up [0,1] J ((by kernel_rfl)) (.c J (.c J (.c J (.c J (.c J (.c J (.nil)))))))) ?_;refine Wz [6,93] ?_;refine zx (Qj J J (c1) J) J ?_;refine Wz [2,35,176,297,34,35,149,301] ?_;refine zx (Vb J (.hit (.hit (.hit (.hit .stop)))) (fun hgrd=>Qg J J J J J)) J ?_;refine zx (Vb J (.hit (.hit (.hit (.hit (.hit .stop))))) (fun hgrd=>Zu J J J)) J ?_;refine zx (Vb J (.hit (.hit (.hit (.hit (.hit (.hit .stop)))))) (fun hgrd=>Z4 J J J J)) J ?_;refine Wz [70] ?_
  refine Xb J (fun h4 => ?_) (fun h4 => ?_)
  ·rw[show peersM x=false from dF fun hp=>pin_no1 h4 (hp.2 k p hq)]
   refine Wz [91,108,142,55] ?_
   exact Uq J (Ur [] J J J)
  refine AWP.pre (st':=(⟨_,[(1,.o (.c (.ptr 0 0))),(13,L x.Peers),(14,I (els x.Peers).length),(15,I k),(3,I k),(4,.o (.c (.ptr 1 0)))],[.box ((Enc.e x).map (V1.rd [])),.box ((Enc.e p).map (V1.rd []))]⟩:St)) ?_ (Ux [0,1])
  refine Wz [25,5,158,250,250] ?_;refine zx (Qj J J (c2) J) J ?_;refine Wz [2,35,262,285,171,34,35,262,285,171,70] ?_
  refine Xb J (fun h5 => ?_) (fun h5 => ?_)
  ·rw[show peersM x=false from dF fun hp=>pin_no2 h5 (hp.2 k p hq)]
   refine Wz [67] ?_
   exact Uq J (Ur [] J J J)
  refine AWP.pre (st':=(⟨_,[(1,.o (.c (.ptr 0 0))),(13,L x.Peers),(14,I (els x.Peers).length),(15,I k)],[.box ((Enc.e x).map (V1.rd []))]⟩:St)) ?_ (Ux [0])
  refine Wz [134,100] ?_
  exact⟨x.Peers.length-(k+1),by omega,_,⟨k+1,by omega,Kn hp_A fun p' hp'=>by rw[hq] at hp'; cases hp'; exact pin_yes h4 h5,J⟩,Ux [0]⟩
 have h3:¬k<x.Peers.length:=by have:=Gqd h; omega
 rw[show peersM x=true from dT ⟨h1,fun i p hi=>hp_A i (by have:=(Gql.1 hi).1; omega) p hi⟩]
 refine Wz [38,72] ?_
 exact Uq J (Ur [] J J J)
theorem Yg {α:Type} [Enc α] {xs:List α} {i:Nat} {x:α} (h:xs[i]? = some x):(els xs)[(i:Int).toNat]? = some (Enc.e x):=by simp[els,h]
theorem lenAt_some {l:List TTrack} {k:Nat} {t:TTrack} (h:l[k]? = some t):lenAt l k=t.Inputs.length:=by simp[lenAt,Gqe,h]
theorem Kj {α:Type} {xs:List α} {i:Nat} (h:i<xs.length):∃ x,xs[i]? = some x:=⟨_,Gqf h⟩
section
variable {m:TMatch} {i j:Nat} {ws:List TWire} {qs:List TPace} {ks:List Int} {p:TPeer} {w:TWire} {q:TPace} {a:Int} {tr:TTrack} (hws:m.Wires[i]? = some ws) (hqs:m.Paces[i]? = some qs) (hks:m.Acks[i]? = some ks)
include hws hqs hks
theorem link_len (h1:ws.length=m.Peers.length) (h2:qs.length=m.Peers.length) (h3:ks.length=m.Peers.length):LinkLen m i:=fun ws' qs' ks' e1 e2 e3=>by
 rw[hws] at e1; rw[hqs] at e2; rw[hks] at e3
 cases e1; cases e2; cases e3
 exact⟨h1,h2,h3⟩
variable (hp:m.Peers[i]? = some p) (hw:ws[j]? = some w) (hq:qs[j]? = some q) (ha:ks[j]? = some a) (ht:p.Tracks[i]? = some tr)
include hp hw hq ha ht
theorem link_spec (h:LinkAt m i j):wireOk w=true∧paceOk q=true∧inR a 0 (els tr.Inputs).length=true:=by
 have h:=h ws qs ks p w q a hws hqs hks hp hw hq ha
 rwa[lenAt_some ht,←Yc tr.Inputs] at h
theorem link_yes (h1:(!wireOk w || !paceOk q)=false) (h2:inR a 0 (els tr.Inputs).length=true):LinkAt m i j:=fun ws' qs' ks' p' w' q' a' e1 e2 e3 e4 e5 e6 e7=>by
 rw[hws] at e1; rw[hqs] at e2; rw[hks] at e3; rw[hp] at e4
 cases e1; cases e2; cases e3; cases e4
 rw[hw] at e5; rw[hq] at e6; rw[ha] at e7
 cases e5; cases e6; cases e7
 simp only[Gqn,Gqz] at h1
 rw[Yc] at h2
 exact⟨h1.1,h1.2,by rw[lenAt_some ht]; exact h2⟩
end
theorem I_linksOk (x:TMatch) (hg:Enc.gd x) (hP:PeersP x):Con Tryz.prog 166 [] [ag x] [] (B (linksM x)):=by
 obtain⟨gL,gS,gD,gSc,gP,gW,gPa,gA,gC,gWa,gLi,gAl,gB⟩:=hg
 have hlp:=Yc x.Peers
 have hx:=gP.1
 have hlw:=Yc x.Wires
 have hlq:=Yc x.Paces
 have hla:=Yc x.Acks
 refine Con.of Tryz.func166 J Tryz.ntmps166 J (fun E => ?_)
 refine Wz [36,29,10,4,31,97,131,35,149,191,171,34,35,149,191,171,70] ?_
 refine Xb J (fun h1 => ?_) (fun h1 => ?_)
 ·simp only[Gqr,decide_eq_true_eq] at h1
  rw[show linksM x=false from dF fun hp=>by obtain⟨⟨a,b,c⟩,_⟩:=hp; omega]
  refine Wz [52] ?_
  exact Uq J (Ur [] J J J)
 simp only[Gqn,decide_eq_false_iff_not,Classical.not_not] at h1
 obtain⟨⟨l1,l2⟩,l3⟩:=h1
 refine AWP.pre (st':=(⟨_,[(1,.o (.c (.ptr 0 0))),(3,I (els x.Peers).length)],[.box ((Enc.e x).map (V1.rd []))]⟩:St)) ?_ (Ux [0])
 refine Wz [25,26] ?_;refine Xj (fun m st=>∃ i:Nat,i+m=x.Peers.length∧((∀ i',i'<i→LinkLen x i'∧∀ j',j'<x.Peers.length→LinkAt x i' j'))∧st=(⟨_,[(1,.o (.c (.ptr 0 0))),(3,I (els x.Peers).length),(4,I i)],[.box ((Enc.e x).map (V1.rd []))]⟩:St)) (x.Peers.length) ⟨_,⟨0,by omega,fun i hi=>absurd hi (Nat.not_lt_zero _),J⟩,Ux [0]⟩ ?_
 rintro m_A _ ⟨i,hk_A,hp_A,rfl⟩
 refine Wz [13,63] ?_
 refine Xb J (fun h => ?_) (fun h => ?_)
 ·have h3:i<x.Peers.length:=by have:=Gqc h; omega
  obtain⟨ws,hws⟩:=Kj (xs:=x.Wires) (i:=i) (by omega)
  obtain⟨qs,hqs⟩:=Kj (xs:=x.Paces) (i:=i) (by omega)
  obtain⟨ks,hks⟩:=Kj (xs:=x.Acks) (i:=i) (by omega)
  obtain⟨p,hp⟩:=Kj (xs:=x.Peers) (i:=i) (by omega)
  have h4:=(pin_spec (hP.2 i p hp)).1.2.2
  have h5:=hP.1
  obtain⟨tr,ht⟩:=Kj (xs:=p.Tracks) (i:=i) (by omega)
  have gws:=gW.2 ws (Gqo hws)
  have hatW:=Yg hws
  have hatQ:=Yg hqs
  have hatK:=Yg hks
  have hatP:=Yg hp
  have hatT:=Yg ht
  have hl1:=Yc ws
  have hl2:=Yc qs
  have hl3:=Yc ks
  refine Wz [8,31,0,47,97,131,35,176,254,263,286,287,264,34,35,176,254,263,286,287,264,70] ?_
  refine Xb J (fun h6 => ?_) (fun h6 => ?_)
  ·simp only[Gqr,decide_eq_true_eq] at h6
   rw[show linksM x=false from dF fun hp=>by obtain⟨a,b,c⟩:=(hp.2 i h3).1 ws qs ks hws hqs hks; omega]
   refine Wz [91,108,142,55] ?_
   exact Uq J (Ur [] J J J)
  simp only[Gqn,decide_eq_false_iff_not,Classical.not_not] at h6
  obtain⟨⟨l4,l5⟩,l6⟩:=h6
  refine AWP.pre (st':=(⟨_,[(1,.o (.c (.ptr 0 0))),(3,I (els x.Peers).length),(4,I i)],[.box ((Enc.e x).map (V1.rd []))]⟩:St)) ?_ (Ux [0])
  refine Wz [25,22,76] ?_;refine Xj (fun m st=>∃ j:Nat,j+m=x.Peers.length∧((∀ j',j'<j→LinkAt x i j'))∧st=(⟨_,[(1,.o (.c (.ptr 0 0))),(3,I (els x.Peers).length),(4,I i),(5,I j)],[.box ((Enc.e x).map (V1.rd []))]⟩:St)) (x.Peers.length) ⟨_,⟨0,by omega,fun i hi=>absurd hi (Nat.not_lt_zero _),J⟩,Ux [0]⟩ ?_
  rintro m_D _ ⟨j,hk_D,hp_D,rfl⟩
  refine Wz [13,63] ?_
  refine Xb J (fun h => ?_) (fun h => ?_)
  ·have h7:j<x.Peers.length:=by have:=Gqc h; omega
   obtain⟨w,hw⟩:=Kj (xs:=ws) (i:=j) (by omega)
   obtain⟨q,hq⟩:=Kj (xs:=qs) (i:=j) (by omega)
   obtain⟨a,ha⟩:=Kj (xs:=ks) (i:=j) (by omega)
   have hatw:=Yg hw
   have hatq:=Yg hq
   have hata:=Yg ha
   have c1:=I_WireOk w (gws.2 w (Gqo hw))
   have c2:=I_PaceOk q
   refine Wz [8,31,0,47,0,69] ?_;refine zx (Qj J J (c1) J) J ?_;refine Wz [2,35,176,254,263] ?_;refine zx (Vb J (.hit (.hit (.hit (.hit (.hit .stop))))) (fun hgrd=>Qa J J J)) J ?_;refine zx (Vb J (.hit (.hit (.hit (.hit (.hit (.hit .stop)))))) (fun hgrd=>Q2 J J J J (by omega) (by assumption) J)) J ?_;refine zx (Vb J (.hit (.hit (.hit (.hit (.hit (.hit (.hit .stop))))))) (fun hgrd=>Zz J J J J J)) J ?_;refine zx (Vb J (.hit (.hit (.hit (.hit (.hit (.hit (.hit (.hit .stop)))))))) (fun hgrd=>Qj J J (c2) J)) J ?_;refine zx (Vb J (.hit (.hit (.hit (.hit (.hit (.hit (.hit (.hit (.hit .stop))))))))) (fun hgrd=>Q4 J J J)) J ?_;refine Wz [70] ?_
   refine Xb J (fun h8 => ?_) (fun h8 => ?_)
   ·rw[show linksM x=false from dF fun hl=>by obtain⟨b,c,_⟩:=link_spec hws hqs hks hp hw hq ha ht ((hl.2 i h3).2 j h7); rw[b,c] at h8; exact absurd h8 (by decide)]
    refine Wz [91,108,142,119] ?_
    exact Uq J (Ur [] J J J)
   refine AWP.pre (st':=(⟨_,[(1,.o (.c (.ptr 0 0))),(3,I (els x.Peers).length),(4,I i),(5,I j)],[.box ((Enc.e x).map (V1.rd []))]⟩:St)) ?_ (Ux [0])
   have c3:=Xr a 0 (els tr.Inputs).length
   cases hr:inR a 0 (els tr.Inputs).length with
   |false =>
    rw[hr] at c3
    rw[show linksM x=false from dF fun hl=>by obtain⟨_,_,b⟩:=link_spec hws hqs hks hp hw hq ha ht ((hl.2 i h3).2 j h7); rw[hr] at b; cases b]
    refine Wz [25,14] ?_;refine Xi u8_51 u8_52 u8_53 J ?_;refine Wz [32,136,64,136,64,32,136,288,64,136,288,64] ?_;refine Kw (Zu J J J) J ?_;refine Kw (Qj J J (c3) J) J ?_;refine Wz [84,16,11,91,179,119] ?_
    exact Uq J (Ur [] J J J)
   |true =>
    rw[hr] at c3
    refine Wz [25,14] ?_;refine Xi u8_51 u8_52 u8_53 J ?_;refine Wz [32,136,64,136,64,32,136,288,64,136,288,64] ?_;refine Kw (Zu J J J) J ?_;refine Kw (Qj J J (c3) J) J ?_;refine Wz [84,16,53] ?_
    exact⟨x.Peers.length-(j+1),by omega,_,⟨j+1,by omega,Kn hp_D (link_yes hws hqs hks hp hw hq ha ht h8 hr),J⟩,Ux [0]⟩
  have h7:¬j<x.Peers.length:=by have:=Gqd h; omega
  refine Wz [150,194] ?_
  exact⟨x.Peers.length-(i+1),by omega,_,⟨i+1,by omega,Kn hp_A ⟨link_len hws hqs hks (by omega) (by omega) (by omega),fun j' hj=>hp_D j' (by omega)⟩,J⟩,Ux [0]⟩
 have h3:¬i<x.Peers.length:=by have:=Gqd h; omega
 rw[show linksM x=true from dT ⟨⟨by omega,by omega,by omega⟩,fun i' hi=>hp_A i' (by omega)⟩]
 refine Wz [38,72] ?_
 exact Uq J (Ur [] J J J)
section
variable {m:TMatch} {s:TSpectator} {l:TWire}
theorem win_spec (h:watcherIn m s l=true):(wireOk l=true∧worldOk s.World=true)∧s.World.Level=m.Level∧(s.World.Scores.length:Int)=(m.Scripts.length:Int):=by
 simp only[watcherIn,Gqh,decide_eq_true_eq] at h
 exact h
theorem win_no1 (h:(!wireOk l || !worldOk s.World)=true):¬watcherIn m s l=true:=fun hp=>by
 obtain⟨⟨a,b⟩,_⟩:=win_spec hp
 rw[a,b] at h
 exact absurd h (by decide)
theorem win_no2 (h:(!decide (s.World.Level=m.Level) || decide (((els s.World.Scores).length:Int)≠((els m.Scripts).length:Int)))=true):¬watcherIn m s l=true:=fun hp=>by
 obtain⟨_,a,b⟩:=win_spec hp
 rw[Gqb a,Yc,Yc,Gqa (fun q=>q b)] at h
 exact absurd h (by decide)
theorem win_yes (h:(!wireOk l || !worldOk s.World)=false) (h2:(!decide (s.World.Level=m.Level) || decide (((els s.World.Scores).length:Int)≠((els m.Scripts).length:Int)))=false):watcherIn m s l=true:=by
 simp only[Gqn,Gqz,decide_eq_false_iff_not,Classical.not_not,decide_eq_true_eq,Yc] at h h2
 simp only[watcherIn,Gqh,decide_eq_true_eq]
 exact⟨h,h2⟩
end
theorem I_watchersOk (x:TMatch) (hg:Enc.gd x):Con Tryz.prog 167 [] [ag x] [] (B (watchersM x)):=by
 obtain⟨gL,gS,gD,gSc,gP,gW,gPa,gA,gC,gWa,gLi,gAl,gB⟩:=hg
 have hlp:=Yc x.Watchers
 have hll:=Yc x.Lines
 have hx:=gWa.1
 refine Con.of Tryz.func167 J Tryz.ntmps167 J (fun E => ?_)
 refine Wz [36,31,10,234,35,149,301] ?_;refine zx (Vb J (.hit (.hit (.hit (.hit .stop)))) (fun hgrd=>Qg J J J J J)) J ?_;refine zx (Vb J (.hit (.hit (.hit (.hit (.hit .stop))))) (fun hgrd=>Zu J J J)) J ?_;refine zx (Vb J (.hit (.hit (.hit (.hit (.hit (.hit .stop)))))) (fun hgrd=>Z4 J J J J)) J ?_;refine Wz [70] ?_
 refine Xb J (fun h1 => ?_) (fun h1 => ?_)
 ·simp only[Gqr,decide_eq_true_eq] at h1
  rw[show watchersM x=false from dF fun hp=>by obtain⟨⟨a,b⟩,_⟩:=hp; omega]
  refine Wz [52] ?_
  exact Uq J (Ur [] J J J)
 simp only[Gqn,decide_eq_false_iff_not,Classical.not_not] at h1
 obtain⟨l1,l2⟩:=h1
 refine AWP.pre (st':=(⟨_,[(1,.o (.c (.ptr 0 0)))],[.box ((Enc.e x).map (V1.rd []))]⟩:St)) ?_ (Ux [0])
 refine Wz [25,31,10,133,76] ?_;refine Xj (fun m st=>∃ k:Nat,k+m=x.Watchers.length∧((∀ i,i<k→∀ s l,x.Watchers[i]? = some s→x.Lines[i]? = some l→watcherIn x s l=true))∧st=(⟨_,[(1,.o (.c (.ptr 0 0))),(19,L x.Watchers),(20,I (els x.Watchers).length),(21,I k)],[.box ((Enc.e x).map (V1.rd []))]⟩:St)) (x.Watchers.length) ⟨_,⟨0,by omega,fun i hi=>absurd hi (Nat.not_lt_zero _),J⟩,Ux [0]⟩ ?_
 rintro m_A _ ⟨k,hk_A,hp_A,rfl⟩
 refine Wz [5,63,14] ?_
 refine Xb J (fun h => ?_) (fun h => ?_)
 ·have h3:k<x.Watchers.length:=by have:=Gqc h; omega
  obtain⟨s,hs⟩:=Kj (xs:=x.Watchers) (i:=k) (by omega)
  obtain⟨l,hl⟩:=Kj (xs:=x.Lines) (i:=k) (by omega)
  have hat:=Yg hs
  have hatL:=Yg hl
  have gs:=gWa.2 s (Gqo hs)
  have c1:=I_WireOk l (gLi.2 l (Gqo hl))
  have c2:=I_WorldOk s.World gs.1
  have c3:=I_sameLevel s.World.Level x.Level gs.1.1
  refine Wz [105,69,46,87,20,31,0,69] ?_;refine zx (Qj J J (c1) J) J ?_;refine Wz [2,178,231] ?_;refine zx (Vb J (.hit (.hit .stop)) (fun hgrd=>Qj J J (c2) J)) J ?_;refine Wz [109,70] ?_
  refine Xb J (fun h4 => ?_) (fun h4 => ?_)
  ·rw[show watchersM x=false from dF fun hp=>win_no1 h4 (hp.2 k s l hs hl)]
   refine Wz [91,108,142,55] ?_
   exact Uq J (Ur [] J J J)
  refine AWP.pre (st':=(⟨_,[(1,.o (.c (.ptr 0 0))),(19,L x.Watchers),(20,I (els x.Watchers).length),(21,I k),(4,.o (.c (.ptr 1 0)))],[.box ((Enc.e x).map (V1.rd [])),.box ((Enc.e s).map (V1.rd []))]⟩:St)) ?_ (Ux [0,1])
  refine Wz [25,5,158,250,250] ?_;refine zx (Qj J J (c3) J) J ?_;refine Wz [2,178,198,227,236] ?_;refine zx (Vb J (.hit (.hit (.hit (.hit .stop)))) (fun hgrd=>Qf J J J J (by decide))) J ?_;refine zx (Vb J (.hit (.hit (.hit (.hit (.hit .stop))))) (fun hgrd=>Qg J J J J J)) J ?_;refine zx (Vb J (.hit (.hit (.hit (.hit (.hit (.hit .stop)))))) (fun hgrd=>Zu J J J)) J ?_;refine Wz [264,70] ?_
  refine Xb J (fun h5 => ?_) (fun h5 => ?_)
  ·rw[show watchersM x=false from dF fun hp=>win_no2 h5 (hp.2 k s l hs hl)]
   refine Wz [67] ?_
   exact Uq J (Ur [] J J J)
  refine AWP.pre (st':=(⟨_,[(1,.o (.c (.ptr 0 0))),(19,L x.Watchers),(20,I (els x.Watchers).length),(21,I k)],[.box ((Enc.e x).map (V1.rd []))]⟩:St)) ?_ (Ux [0])
  refine Wz [134,100] ?_
  exact⟨x.Watchers.length-(k+1),by omega,_,⟨k+1,by omega,Kn hp_A fun s' l' hs' hl'=>by rw[hs] at hs'; rw[hl] at hl'; cases hs'; cases hl'; exact win_yes h4 h5,J⟩,Ux [0]⟩
 have h3:¬k<x.Watchers.length:=by have:=Gqd h; omega
 rw[show watchersM x=true from dT ⟨⟨by omega,by omega⟩,fun i s l hi hl=>hp_A i (by have:=(Gql.1 hi).1; omega) s l hi hl⟩]
 refine Wz [38,72] ?_
 exact Uq J (Ur [] J J J)
end
section
open Go.RowKit

section
variable {m:TMatch}
theorem match_I (hH:HeadP m) (hS:1≤m.Scripts.length∧m.Scripts.length≤4) (hA:m.Scripts.all scriptOk=true) (hP:PeersP m):(linksM m&&watchersM m)=matchOk m:=by
 by_cases hl:LinksP m
 ·by_cases hw:WatchersP m
  ·rw[show linksM m=true from dT hl,show watchersM m=true from dT hw,show matchOk m=true from dT ⟨hH,hS,hA,hP,hl,hw⟩]; rfl
  ·rw[show watchersM m=false from dF hw,show matchOk m=false from dF fun ⟨_,_,_,_,_,q⟩=>hw q,Gxo]
 ·rw[show linksM m=false from dF hl,show matchOk m=false from dF fun ⟨_,_,_,_,q,_⟩=>hl q,Bool.false_and]
end
theorem I_MatchOk (x:TMatch) (hg:Enc.gd x):Con Tryz.prog 68 [] [ag x] [] (B (matchOk x)):=by
 have hg0:=hg
 obtain⟨gL,gS,gD,gSc,gP,gW,gPa,gA,gC,gWa,gLi,gAl,gB⟩:=hg
 have hl:=Yc x.Scripts
 have hx:=gSc.1
 have c1:=Xq x.Level gL
 refine Con.of Tryz.func68 J Tryz.ntmps68 J (fun E => ?_)
 refine Wz [36,207] ?_;refine zx (Qj J J (c1) J) J ?_;refine Wz [2,35] ?_;refine zx (Vb J (.hit (.hit .stop)) (fun hgrd=>Qj J J (Xr x.Seed 0 65535) J)) J ?_;refine Wz [109,34,35] ?_;refine zx (Vb J (.hit (.hit .stop)) (fun hgrd=>Qj J J (Xr x.Delay 0 5) J)) J ?_;refine Wz [109,70] ?_
 refine Xb J (fun h1 => ?_) (fun h1 => ?_)
 ·rw[show matchOk x=false from dF fun hm=>by obtain⟨⟨a,b,c,_⟩,_⟩:=hm; rw[a,b,c] at h1; exact absurd h1 (by decide)]
  refine Wz [52] ?_
  exact Uq J (Ur [] J J J)
 refine AWP.pre (st':=(⟨_,[(1,.o (.c (.ptr 0 0)))],[.box ((Enc.e x).map (V1.rd []))]⟩:St)) ?_ (Ux [0])
 refine Wz [25,31] ?_;refine zx (Qj J J (Xr x.Clock 0 1000) J) J ?_;refine Wz [2,35] ?_;refine zx (Vb J (.hit (.hit .stop)) (fun hgrd=>Qj J J (Xr x.Bad 0 1000000) J)) J ?_;refine Wz [109,70] ?_
 refine Xb J (fun h2 => ?_) (fun h2 => ?_)
 ·rw[show matchOk x=false from dF fun hm=>by obtain⟨⟨_,_,_,a,b⟩,_⟩:=hm; rw[a,b] at h2; exact absurd h2 (by decide)]
  refine Wz [52] ?_
  exact Uq J (Ur [] J J J)
 refine AWP.pre (st':=(⟨_,[(1,.o (.c (.ptr 0 0)))],[.box ((Enc.e x).map (V1.rd []))]⟩:St)) ?_ (Ux [0])
 simp only[Gqn,Gqz] at h1 h2
 have hH:HeadP x:=⟨h1.1.1,h1.1.2,h1.2,h2.1,h2.2⟩
 refine Wz [25,31,10,180,35,149,268,70] ?_
 refine Xb J (fun h3 => ?_) (fun h3 => ?_)
 ·simp only[Gqr,decide_eq_true_eq] at h3
  rw[show matchOk x=false from dF fun hm=>by obtain⟨_,⟨a,b⟩,_⟩:=hm; omega]
  refine Wz [52] ?_
  exact Uq J (Ur [] J J J)
 simp only[Gqn,decide_eq_false_iff_not] at h3
 refine AWP.pre (st':=(⟨_,[(1,.o (.c (.ptr 0 0)))],[.box ((Enc.e x).map (V1.rd []))]⟩:St)) ?_ (Ux [0])
 refine Wz [25,31,10,133,76] ?_;refine Xj (fun m st=>∃ k:Nat,k+m=x.Scripts.length∧((x.Scripts.take k).all scriptOk=true)∧st=(⟨_,[(1,.o (.c (.ptr 0 0))),(42,L x.Scripts),(43,I (els x.Scripts).length),(44,I k)],[.box ((Enc.e x).map (V1.rd []))]⟩:St)) (x.Scripts.length) ⟨_,⟨0,by omega,by simp,J⟩,Ux [0]⟩ ?_
 rintro m_A _ ⟨k,hk_A,hp_A,rfl⟩
 refine Wz [5,63,14] ?_
 refine Xb J (fun h => ?_) (fun h => ?_)
 ·have h5:k<x.Scripts.length:=by have:=Gqc h; omega
  have hat:=Yb h5
  have hc:=I_scriptOk x.Scripts[k] (gSc.2 _ (Gqg h5))
  cases ho:scriptOk x.Scripts[k] with
  |false =>
   rw[ho] at hc
   rw[show matchOk x=false from dF fun hm=>by have:=hm.2.2.1; rw[all_no h5 ho] at this; cases this]
   refine Wz [8,5,47,83] ?_;refine zx (Qj J J (hc) J) J ?_;refine Wz [2,11,67] ?_
   exact Uq J (Ur [] J J J)
  |true =>
   rw[ho] at hc
   refine Wz [8,5,47,83] ?_;refine zx (Qj J J (hc) J) J ?_;refine Wz [2,132,100] ?_
   exact⟨x.Scripts.length-(k+1),by omega,_,⟨k+1,by omega,X7 hp_A h5 ho,J⟩,Ux [0]⟩
 have h5:¬k<x.Scripts.length:=by have:=Gqd h; omega
 have hA:=Gl hp_A
 have cp:=I_peersOk x hg0
 have cw:=I_watchersOk x hg0
 refine AWP.pre (st':=(⟨_,[(1,.o (.c (.ptr 0 0)))],[.box ((Enc.e x).map (V1.rd []))]⟩:St)) ?_ (Ux [0])
 by_cases hP:PeersP x
 ·have cl:=I_linksOk x hg0 hP
  rw[show peersM x=true from dT hP] at cp
  rw[←match_I hH (by omega) hA hP]
  refine Wz [38,30] ?_;refine zx (Qj J J (cp) J) J ?_;refine Wz [79,92,3] ?_;refine zx (Qj J J (cl) J) J ?_;refine Wz [24,0] ?_;refine zx (Qt.grdT J J J .stop (fun hgrd=>Qu J J J J J J)) J ?_;refine zx (Qt.grdT J J J (.hit .stop) (fun hgrd=>Qj J J (cw) J)) J ?_;refine Wz [42,85] ?_
  exact Uq J (Ur [] J J J)
 ·rw[show peersM x=false from dF hP] at cp
  rw[show matchOk x=false from dF fun hm=>hP hm.2.2.2.1]
  refine Wz [38,30] ?_;refine zx (Qj J J (cp) J) J ?_;refine Wz [40,7,40,7,85] ?_
  exact Uq J (Ur [] J J J)
end
section
open Go.RowKit

theorem S_square (x:TMatch) (hg:Enc.gd x) (hP:PeersP x):Con Tryz.prog 158 [] [ag x,ai x.Peers.length] [] (B (linksM x)):=by
 obtain⟨gL,gS,gD,gSc,gP,gW,gPa,gA,gC,gWa,gLi,gAl,gB⟩:=hg
 have hx:=gP.1
 have hlw:=Yc x.Wires
 have hlq:=Yc x.Paces
 have hla:=Yc x.Acks
 refine Con.of Tryz.func158 J Tryz.ntmps158 J (fun E => ?_)
 refine Wz [36,31,97,131,35,149,191,171,34,35,149,191,171,70] ?_
 refine Xb J (fun h1 => ?_) (fun h1 => ?_)
 ·simp only[Gqr,decide_eq_true_eq] at h1
  rw[show linksM x=false from dF fun hp=>by obtain⟨⟨a,b,c⟩,_⟩:=hp; omega]
  refine Wz [52] ?_
  exact Uq J (Ur [] J J J)
 simp only[Gqn,decide_eq_false_iff_not,Classical.not_not] at h1
 obtain⟨⟨l1,l2⟩,l3⟩:=h1
 refine AWP.pre (st':=(⟨_,[(2,.o (.c (.ptr 0 0))),(1,I x.Peers.length)],[.box ((Enc.e x).map (V1.rd []))]⟩:St)) ?_ (Ux [0])
 refine Wz [25,26] ?_;refine Xj (fun m st=>∃ i:Nat,i+m=x.Peers.length∧((∀ i',i'<i→LinkLen x i'∧∀ j',j'<x.Peers.length→LinkAt x i' j'))∧st=(⟨_,[(2,.o (.c (.ptr 0 0))),(1,I x.Peers.length),(5,I i)],[.box ((Enc.e x).map (V1.rd []))]⟩:St)) (x.Peers.length) ⟨_,⟨0,by omega,fun i hi=>absurd hi (Nat.not_lt_zero _),J⟩,Ux [0]⟩ ?_
 rintro m_A _ ⟨i,hk_A,hp_A,rfl⟩
 refine Wz [13,63] ?_
 refine Xb J (fun h => ?_) (fun h => ?_)
 ·have h3:i<x.Peers.length:=by have:=Gqc h; omega
  obtain⟨ws,hws⟩:=Kj (xs:=x.Wires) (i:=i) (by omega)
  obtain⟨qs,hqs⟩:=Kj (xs:=x.Paces) (i:=i) (by omega)
  obtain⟨ks,hks⟩:=Kj (xs:=x.Acks) (i:=i) (by omega)
  obtain⟨p,hp⟩:=Kj (xs:=x.Peers) (i:=i) (by omega)
  have h4:=(pin_spec (hP.2 i p hp)).1.2.2
  have h5:=hP.1
  obtain⟨tr,ht⟩:=Kj (xs:=p.Tracks) (i:=i) (by omega)
  have gws:=gW.2 ws (Gqo hws)
  have hatW:=Yg hws
  have hatQ:=Yg hqs
  have hatK:=Yg hks
  have hatP:=Yg hp
  have hatT:=Yg ht
  have hl1:=Yc ws
  have hl2:=Yc qs
  have hl3:=Yc ks
  refine Wz [8,31,0,47,97,131,35,176,254,263,286,287,264,34,35,176,254,263,286,287,264,70] ?_
  refine Xb J (fun h6 => ?_) (fun h6 => ?_)
  ·simp only[Gqr,decide_eq_true_eq] at h6
   rw[show linksM x=false from dF fun hp=>by obtain⟨a,b,c⟩:=(hp.2 i h3).1 ws qs ks hws hqs hks; omega]
   refine Wz [91,108,142,55] ?_
   exact Uq J (Ur [] J J J)
  simp only[Gqn,decide_eq_false_iff_not,Classical.not_not] at h6
  obtain⟨⟨l4,l5⟩,l6⟩:=h6
  refine AWP.pre (st':=(⟨_,[(2,.o (.c (.ptr 0 0))),(1,I x.Peers.length),(5,I i)],[.box ((Enc.e x).map (V1.rd []))]⟩:St)) ?_ (Ux [0])
  refine Wz [25,22,76] ?_;refine Xj (fun m st=>∃ j:Nat,j+m=x.Peers.length∧((∀ j',j'<j→LinkAt x i j'))∧st=(⟨_,[(2,.o (.c (.ptr 0 0))),(1,I x.Peers.length),(5,I i),(6,I j)],[.box ((Enc.e x).map (V1.rd []))]⟩:St)) (x.Peers.length) ⟨_,⟨0,by omega,fun i hi=>absurd hi (Nat.not_lt_zero _),J⟩,Ux [0]⟩ ?_
  rintro m_D _ ⟨j,hk_D,hp_D,rfl⟩
  refine Wz [13,63] ?_
  refine Xb J (fun h => ?_) (fun h => ?_)
  ·have h7:j<x.Peers.length:=by have:=Gqc h; omega
   obtain⟨w,hw⟩:=Kj (xs:=ws) (i:=j) (by omega)
   obtain⟨q,hq⟩:=Kj (xs:=qs) (i:=j) (by omega)
   obtain⟨a,ha⟩:=Kj (xs:=ks) (i:=j) (by omega)
   have hatw:=Yg hw
   have hatq:=Yg hq
   have hata:=Yg ha
   have c1:=S_WireOk w (gws.2 w (Gqo hw))
   have c2:=S_PaceOk q
   have c3:=Xy a 0 (els tr.Inputs).length
   cases hr1:wireOk w with
   |false =>
    rw[hr1] at c1
    rw[show linksM x=false from dF fun hl=>by obtain⟨b,_,_⟩:=link_spec hws hqs hks hp hw hq ha ht ((hl.2 i h3).2 j h7); rw[hr1] at b; cases b]
    refine Wz [81,289,32,136,64,136,290] ?_;refine Kw (Qj J J (c1) J) J ?_;refine Wz [84,1,127,240,96,1,127,127,164,181,96,16,11,91,179,119] ?_
    exact Uq J (Ur [] J J J)
   | true =>
    rw[hr1] at c1
    cases hr2:paceOk q with
    |false =>
     rw[hr2] at c2
     rw[show linksM x=false from dF fun hl=>by obtain⟨_,b,_⟩:=link_spec hws hqs hks hp hw hq ha ht ((hl.2 i h3).2 j h7); rw[hr2] at b; cases b]
     refine Wz [81,289,32,136,64,136,290] ?_;refine Kw (Qj J J (c1) J) J ?_;refine Wz [84,1,27,37,128,138,37,128] ?_;refine Kw (Qt.yes J J J (Zz J J J J J)) J ?_;refine Kw (Qt.yes J J J (Qj J J (c2) J)) J ?_;refine Wz [140,73,1,127,127,164,181,96,16,11,91,179,119] ?_
     exact Uq J (Ur [] J J J)
    | true =>
     rw[hr2] at c2
     cases hr:inR a 0 (els tr.Inputs).length with
     |false =>
      rw[hr] at c3
      rw[show linksM x=false from dF fun hl=>by obtain⟨_,_,b⟩:=link_spec hws hqs hks hp hw hq ha ht ((hl.2 i h3).2 j h7); rw[hr] at b; cases b]
      refine Wz [81,289,32,136,64,136,290] ?_;refine Kw (Qj J J (c1) J) J ?_;refine Wz [84,1,27,37,128,138,37,128] ?_;refine Kw (Qt.yes J J J (Zz J J J J J)) J ?_;refine Kw (Qt.yes J J J (Qj J J (c2) J)) J ?_;refine Wz [140,73,1,27,37,128,138,37,128,138,27,37,128,202,138,37,128,202,138,224] ?_;refine Kw (Qt.yes J J J (Qj J J (c3) J)) J ?_;refine Wz [140,73,16,11,91,179,119] ?_
      exact Uq J (Ur [] J J J)
     |true =>
      rw[hr] at c3
      refine Wz [81,289,32,136,64,136,290] ?_;refine Kw (Qj J J (c1) J) J ?_;refine Wz [84,1,27,37,128,138,37,128] ?_;refine Kw (Qt.yes J J J (Zz J J J J J)) J ?_;refine Kw (Qt.yes J J J (Qj J J (c2) J)) J ?_;refine Wz [140,73,1,27,37,128,138,37,128,138,27,37,128,202,138,37,128,202,138,224] ?_;refine Kw (Qt.yes J J J (Qj J J (c3) J)) J ?_;refine Wz [140,73,16,53] ?_
      exact⟨x.Peers.length-(j+1),by omega,_,⟨j+1,by omega,Kn hp_D (link_yes hws hqs hks hp hw hq ha ht (by rw[hr1,hr2]; rfl) hr),J⟩,Ux [0]⟩
  have h7:¬j<x.Peers.length:=by have:=Gqd h; omega
  refine Wz [150,194] ?_
  exact⟨x.Peers.length-(i+1),by omega,_,⟨i+1,by omega,Kn hp_A ⟨link_len hws hqs hks (by omega) (by omega) (by omega),fun j' hj=>hp_D j' (by omega)⟩,J⟩,Ux [0]⟩
 have h3:¬i<x.Peers.length:=by have:=Gqd h; omega
 rw[show linksM x=true from dT ⟨⟨by omega,by omega,by omega⟩,fun i' hi=>hp_A i' (by omega)⟩]
 refine Wz [38,72] ?_
 exact Uq J (Ur [] J J J)
end
end Go.Proofs.YtoecjaohdnoenaaGreat
