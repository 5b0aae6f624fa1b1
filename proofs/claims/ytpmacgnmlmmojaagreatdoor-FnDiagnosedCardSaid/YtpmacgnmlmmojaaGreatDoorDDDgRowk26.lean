/-
  Parts of the proof (rules, data, and what functions of the program and of the reference return), among them: Replayed: the confirmed world of a peer at a tick, from the beginning; CleanUpTo, in the program and in the reference.
  Conditions: those that each theorem names.
-/
import Derived.Test.YtpmacgnmlmmojaaGreatDoorDDDgRowk13
import Derived.Test.YtpmacgnmlmmojaaGreatDoorDDDgRowk17
import Derived.Test.YtpmacgnmlmmojaaGreatDoorDDDgRowk22
import Derived.Test.YtpmacgnmlmmojaaGreatDoorDDDgRowk25
set_option linter.unusedSimpArgs false
set_option linter.unusedVariables false
set_option maxRecDepth 8000
set_option maxHeartbeats 8000000
namespace Go.Proofs.YtpmacgnmlmmojaaGreatDoor
section
open Go.RowKit

def acks (n : Nat) (t : Int) : List Int := List.replicate n t
theorem acks_next (k : Nat) (t : Int) : els (acks (k + 1) t) = els (acks k t) ++ [[.v (.int .i64 t)]] := by
 rw [acks,List.replicate_succ',els,List.map_append]
 rfl
@[reducible] def qC (fr ti fs : Int) (i a : V1) (st su : Int) : List V1 := [jn fr,jn ti,jn fs,i,a,jn st,jn su,jn 0,jn 0]
theorem I_MakePacket (l : List TTrack) (mi t : Nat) (g : Enc.gd l) (ho : tracksOk l = true) (hm : mi < l.length) (ht : t ≤ 1000) (hk : ∀ y ∈ l,y.Inputs.length = t) : Con Tryz.prog 57 [] [al l,ai mi,ai t] [.row 1 [],.row 1 (els (acks l.length t))] (.tu [.ag (qC mi 0 t (.ref 0) (.ref 1) 0 0),.c (bv true)]) := by
 have c1 := Xu l g
 rw [ho] at c1
 have hl := Ym l
 have h4 := Kf ho
 have hat := Yl hm
 have hmi := hk _ (List.getElem_mem hm)
 have hli := Ym l[mi].Inputs
 have f1 : decide ((mi : Int) < 0) = false := decide_eq_false (by omega)
 have f2 : decide (((els l).length : Int) ≤ (mi : Int)) = false := decide_eq_false (by omega)
 have f3 : decide ((t : Int) < 0) = false := decide_eq_false (by omega)
 have f4 : decide (((els l[mi].Inputs).length : Int) < (t : Int)) = false := decide_eq_false (by omega)
 have hz : V.o (.c (.rd [] (T.sl (Enc.k Int) (List.drop ((t : Int)).toNat (List.take (min ((els l[mi].Inputs).length : Int) ((t : Int) + 40)).toNat (els l[mi].Inputs)))))) = V.o (.c (.rd [] (T.sl 1 []))) := by
  rw [List.drop_eq_nil_of_le (by rw [List.length_take]; omega)]
  rfl
 refine Con.of Tryz.func57 J Tryz.ntmps57 J (fun E => ?_)
 refine Wz [4,18,56] ?_;refine zx (Qj J J (c1) J) J ?_;refine Wz [14,16,10,8,16,30,12,6,95,8,16,10,8,16,16,77,6] ?_;refine zx (q_fldr J J J J (by decide)) J ?_;refine Wz [6,117,6,12,6,85,8,35,39,108,18,37,39,77] ?_;refine zx (q_fldr J J J J (by decide)) J ?_;refine Wz [117,22] ?_
 refine AWP.pre (st' := (⟨_,[(0,L l),(2,I t),(6,.o (.c (.ptr 0 0))),(7,B false),(8,.o (.c (.ptr 1 0))),(9,L l[mi].Inputs)],[.box (qC 0 0 0 nv nv 0 0),.box (qC mi 0 t nv nv 0 0)]⟩ : St)) ?_ (X8 [0,1] (by decide) J ((by kernel_rfl)) (.c J (.c J (.c J (.c J (.c J (.c J (.nil))))))))
 refine Xh [[],[0],[],[],[],[4],[],[6],[4,5,6,7],[2,3,4,5,6,7,8],(u9 10),(u9 11),(u9 12)] [[],[48],[],[],[],[52],[],[54],[52,53,54,55],[50,51,52,53,54,55,56],[48,49,50,51,52,53,54,55,56,57],[48,49,50,51,52,53,54,55,56,57,58],[48,49,50,51,52,53,54,55,56,57,58,59]] [[50,51,52,53,54,55,56,57],[50,51,52,53,54,55,56,57],[48,49,51,52,53,54,55,56],[48,49,50,52,53,54,55,56],[48,49,50,51,54,55],[48,49,50,51,54,55],[48,49,50,51,52,53],[48,49,50,51,52,53],[48,49,50,51],[48,49],[],[],[],[2,3]] J ?_;refine Wz [33,3,3,3,123,3] ?_;refine DR.s (Qs J J J J (by omega)) J J (DR.s (q_min J J J J) J J (DR.s (q_part J J J J J J (by omega)) J J (DR.stop (by kernel_rfl) (by kernel_rfl) ?_)));refine AL.weak (st' := (⟨_,[(0,L l),(6,.o (.c (.ptr 0 0))),(7,B false),(8,.o (.c (.ptr 1 0))),(49,.o (.c nv)),(57,.o (.c (.rd [] (.sl 1 []))))],[.box (qC 0 0 0 nv nv 0 0),.box (qC mi 0 t nv nv 0 0)]⟩ : St)) (X8 [0,1] (by decide) J (by kernel_rfl) (.c J (.c J (.c J (.c J (.c J (.cons (by exact hz) (.nil)))))))) ?_;refine M_appnil J J J J J J J J (fun e he => nomatch he) (fun e he => nomatch he) (by decide) (by decide) ?_;refine Wz [41,1,28,12,78,13] ?_
 refine AWP.pre ?_ (Wk.nilbox (p := 1) (i := 4) 1 J J)
 refine Xi (fun m st => ∃ k : Nat,k + m = l.length ∧ (True) ∧ st = (⟨_,[(0,L l),(6,.o (.c (.ptr 0 0))),(7,B false),(8,.o (.c (.ptr 1 0))),(60,L l),(61,I (els l).length),(62,I k)],[.box (qC 0 0 0 nv nv 0 0),.box (qC mi 0 t (.ref 2) (.ref 3) 0 0),.row 1 [],.row 1 (els (acks k t))]⟩ : St)) (l.length) ⟨_,⟨0,by omega,trivial,J⟩,X7 [0,1,2,3] (by kernel_rfl)⟩ ?_
 rintro m_A _ ⟨k,hk_A,hp_A,rfl⟩
 have hla : (els (acks k t)).length = k := by rw [Ym]; simp [acks]
 by_cases h3 : k < l.length
 ·have f5 : decide ((k : Int) < ((els l).length : Int)) = true := decide_eq_true (by omega)
  have hak := Yl h3
  have hkk := hk _ (List.getElem_mem h3)
  have hlk := Ym l[k].Inputs
  have hnx : els (acks (k + 1) t) = els (acks k t) ++ [[.v (.int .i64 ((els l[k].Inputs).length : Int))]] := by rw [acks_next,hlk,hkk]
  refine Wz [4,10,21,46,29,4,77,107,18,37,81,17,17,12,54,87,41,74,38] ?_
  exact ⟨l.length - (k + 1),by omega,_,⟨k + 1,by omega,trivial,J⟩,(by rw [hnx]; exact X7 [0,1,2,3] (by kernel_rfl))⟩
 have f5 : decide ((k : Int) < ((els l).length : Int)) = false := decide_eq_false (by omega)
 have hkl : k = l.length := by omega
 subst hkl
 refine Wz [4,10,21,47,32,15,40,34] ?_
 exact Xm J J J J J (X6 [2,3] (by decide) J J J)
theorem I_Tell (x : TPeer) (mi t : Nat) (h : PeerIn x) (ok : peerOk x = true) (hm : x.Me = mi) (hml : mi < x.Tracks.length) (ht : t ≤ 1000) (hk : ∀ y ∈ x.Tracks,y.Inputs.length = t) (gp : Enc.gd (⟨mi,x.Now.Tick,t,[],acks x.Tracks.length t,x.Base.Tick,wsum x.Base,0,0⟩ : TPacket)) (op : packetOk ⟨mi,x.Now.Tick,t,[],acks x.Tracks.length t,x.Base.Tick,wsum x.Base,0,0⟩ = true) : Con Tryz.prog 13 [] [ag x,ai t] [.row 1 (els ([] : List Int)),.row 1 (els (acks x.Tracks.length t))] (.tu [.ag (qC mi x.Now.Tick t (.ref 0) (.ref 1) x.Base.Tick (wsum x.Base)),.c (bv true)]) := by
 have c1 := Xs x h.gd
 rw [ok] at c1
 have ⟨⟨o1,_⟩,_⟩ := peer_spec ok
 obtain ⟨_,_,_,_,gT,gB,gN,gU,gS,gM,gF,_,_⟩ := h.gd
 have c2 := I_MakePacket x.Tracks mi t gT o1 hml ht hk
 rw [← hm] at c2
 have c3 := I_WorldSum x.Base gB
 have c4 := I_PacketOk _ gp
 rw [op] at c4
 rw [← hm] at c4 ⊢
 refine Con.of Tryz.func13 J Tryz.ntmps13 J (fun E => ?_)
 refine Wz [26,18,22,15] ?_;refine zx (Qj J J (c1) J) J ?_;refine Wz [14,35,5,17,0] ?_;refine M1 (Zk J J (c2) J J J) J J ?_;refine Wz [88,42,42,18,40,56,14,35,4,64,17,41,1,4,64,17,41,1,4,64,27] ?_;refine zx (Qj J J (c3) J) J ?_;refine Wz [41,21,15] ?_;refine zx (Qj J J (c4) J) J ?_;refine Wz [14,35,15,40,34] ?_
 exact Xm J J J J J (X6 [2,3] (by decide) J J J)
end
section
open Go.RowKit

def rowsOf (l : List TTrack) (t : Nat) : List (List Int) := (List.range t).map (rowAt l)
theorem rowsOf_next {l : List TTrack} {k : Nat} : els (rowsOf l (k + 1)) = els (rowsOf l k) ++ [Enc.e (rowAt l k)] := by
 rw [rowsOf,List.range_succ,List.map_append,els,List.map_append]
 rfl
theorem rowsOf_at {l : List TTrack} {t k : Nat} (h : k < t) : (rowsOf l t)[k]'(by simpa [rowsOf] using h) = rowAt l k := by simp [rowsOf]
theorem I_RowsOf (l : List TTrack) (t : Nat) (g : Enc.gd l) (ho : tracksOk l = true) (ht : t ≤ knownTicks l) (h1000 : t ≤ 1000) (hk : ∀ k < t,∀ x ∈ l,k < x.Inputs.length) : Con Tryz.prog 140 [] [al l,ai 0,ai t] [.row 1 (els (rowsOf l t))] (.o (.c (.ref 0))) := by
 have c1 := Xu l g
 rw [ho] at c1
 have c2 := Xq l g
 have f1 : decide ((0 : Int) < 0) = false := rfl
 have f2 : decide (((knownTicks l : Nat) : Int) < (t : Int)) = false := decide_eq_false (by omega)
 refine Con.of Tryz.func140 J Tryz.ntmps140 J (fun E => ?_)
 refine Wz [11,28] ?_;refine zx (Qj J J (c1) J) J ?_;refine Wz [14,16,10,8,16,30] ?_;refine zx (Qj J J (c2) J) J ?_;refine Wz [6,85,8,35,11,28,2,13] ?_
 refine AWP.pre ?_ (W_nil 7 1 J)
 refine Xi (fun m st => ∃ k : Nat,k + m = t ∧ (True) ∧ st = (⟨_,[(0,L l),(2,I t),(7,.o (.c (.ref 0))),(8,I k)],[.row 1 (els (rowsOf l k))]⟩ : St)) (t) ⟨_,⟨0,by omega,trivial,J⟩,X7 [0] (by kernel_rfl)⟩ ?_
 rintro m_A _ ⟨k,hk_A,hp_A,rfl⟩
 have hl2 : (els (rowsOf l k)).length = k := by rw [Ym]; simp [rowsOf]
 by_cases h3 : k < t
 ·have f3 : decide ((k : Int) < (t : Int)) = true := decide_eq_true (by omega)
  have c3 := I_RowAt l k g ho (hk k h3)
  refine Wz [36,10,9,29,39] ?_;refine M1 (Zk J J (c3) J J J) J J ?_;refine Wz [88,42,42,72,2,49,0,54,111,51,50] ?_
  exact ⟨t - (k + 1),by omega,(fun k : Nat => (⟨_,[(0,L l),(2,I t),(7,.o (.c (.ref 0))),(8,I k)],[.row 1 (els (rowsOf l k))]⟩ : St)) (k + 1),⟨k + 1,by omega,trivial,J⟩,X8 [0] (by decide) J (row_eq rowsOf_next) (.c J (.c J (.c J (.c J (.nil)))))⟩
 have f3 : decide ((k : Int) < (t : Int)) = false := decide_eq_false (by omega)
 have hkt : k = t := by omega
 subst hkt
 refine Wz [36,10,60,32,7,34] ?_
 exact Xn J J (X6 [0] (by decide) J J J)
structure RunIn (W : Nat → TWorld) (l : List TTrack) (f : TFault) (t : Nat) : Prop where
 wi : ∀ k,k ≤ t → WorIn (W k)
 st : ∀ k,k < t → W (k + 1) = stepF (W k) (rowAt l k) f
 sl_ : ∀ k,k < t → (stepW (W k) (rowAt l k)).Scores.length = (W k).Scores.length
 ss : ∀ k,k < t → ∀ s ∈ (stepW (W k) (rowAt l k)).Scores,0 ≤ s ∧ s ≤ 1000000
 lv : ∀ k,k < t → (stepW (W k) (rowAt l k)).Level = (W k).Level
 gr : ∀ k,k < t → Enc.gd (rowAt l k)
 kn : ∀ k,k < t → ∀ x ∈ l,k < x.Inputs.length
theorem I_Replayed (x : TPeer) (W : Nat → TWorld) (t : Nat) (h : PeerIn x) (ok : peerOk x = true) (ht : t ≤ knownTicks x.Tracks) (h1000 : t ≤ 1000) (hW : W 0 = newWorld x.Base.Level x.Tracks.length x.Seed) (hR : RunIn W x.Tracks x.Fault t) : Con Tryz.prog 55 [] [ag x,ai t] (wR (W t) []) (.tu [.ag [.ref 0,jn (W t).Tick,jn (W t).Seed,.ref 1,.ref 2],.c (bv true)]) := by
 have c1 := Xs x h.gd
 rw [ok] at c1
 have ⟨⟨o1,o2,_⟩,_,_,⟨⟨s1,s2⟩,_⟩,_⟩ := peer_spec ok
 have hts := Kf o1
 obtain ⟨_,_,_,_,gT,gB,gN,gU,gS,gM,gF,_,_⟩ := h.gd
 have hlt := Ym x.Tracks
 have c2 := Xq x.Tracks gT
 have c3 := I_NewWorld x.Base.Level x.Tracks.length x.Seed gB.1 h.bw.1 (Kh o2).1 ⟨hts.1,hts.2⟩ (Y0.2 ⟨s1,s2⟩)
 rw [← hW,← hlt] at c3
 have c4 := I_RowsOf x.Tracks t gT o1 ht h1000 hR.kn
 have f1 : decide ((t : Int) < 0) = false := decide_eq_false (by omega)
 have f2 : decide (((knownTicks x.Tracks : Nat) : Int) < (t : Int)) = false := decide_eq_false (by omega)
 have hlr : (els (rowsOf x.Tracks t)).length = t := by rw [Ym]; simp [rowsOf]
 refine Con.of Tryz.func55 J Tryz.ntmps55 J (fun E => ?_)
 refine Wz [26,18,22,15] ?_;refine zx (Qj J J (c1) J) J ?_;refine Wz [14,16,10,8,16,116] ?_;refine zx (Qj J J (c2) J) J ?_;refine Wz [6,85,8,35,4,64,64,27,17,12,17] ?_;refine M1 (Zk J J (c3) J J J) J J ?_;refine Wz [88,42,42,18,40,56,14,60,70,5,0] ?_;refine M1 (Zk J J (c4) J J J) J J ?_;refine Wz [112,78,13] ?_;refine Xi (fun m st => ∃ k : Nat,k + m = t ∧ (True) ∧ st = (⟨_,[(2,.o (.c (.ptr 0 0))),(4,.o (.c (.ptr 1 0))),(6,.o (.c (.ptr 5 0))),(43,.o (.c (.ref 6))),(44,I (els (rowsOf x.Tracks t)).length),(45,I k)],[.box (pD x),.box [nv,jn 0,jn 0,nv,nv],.row 1 (els (W k).Level.Rows),.row 1 (els (W k).Scores),.row 9 (els (W k).Bodies),.box [.ref 2,jn (W k).Tick,jn (W k).Seed,.ref 3,.ref 4],.row 1 (els (rowsOf x.Tracks t))]⟩ : St)) (t) ⟨_,⟨0,by omega,trivial,J⟩,X7 [0,1,2,3,4,5,6] (by kernel_rfl)⟩ ?_
 rintro m_A _ ⟨k,hk_A,hp_A,rfl⟩
 by_cases h3 : k < t
 ·have f3 : decide ((k : Int) < ((els (rowsOf x.Tracks t)).length : Int)) = true := decide_eq_true (by omega)
  have hat : (els (rowsOf x.Tracks t))[k]? = some (Enc.e (rowAt x.Tracks k)) := by
   have := Yl (xs := rowsOf x.Tracks t) (k := k) (by simpa [rowsOf] using h3)
   rwa [rowsOf_at h3] at this
  have hw := hR.wi k (by omega)
  have c5 := I_FaultyStep (W k) (rowAt x.Tracks k) x.Fault hw.gd (hR.gr k h3) gF hw.h1 hw.h2 hw.h3 (hR.sl_ k h3) (hR.ss k h3) (hR.lv k h3)
  rw [← hR.st k h3] at c5
  refine Wz [4,10,21,46,29,4,110,144,2,81,27,0,64,27] ?_;refine M1 (Zk J J (c5) J J J) J J ?_;refine Wz [40,74,38] ?_
  exact ⟨t - (k + 1),by omega,_,⟨k + 1,by omega,trivial,J⟩,X7 [0,1,7,8,9,5,6] (by kernel_rfl)⟩
 have f3 : decide ((k : Int) < ((els (rowsOf x.Tracks t)).length : Int)) = false := decide_eq_false (by omega)
 have hkt : k = t := by omega
 subst hkt
 refine Wz [4,10,21,47,32,15,40,34] ?_
 exact Xm J J J J J (X6 [2,3,4] (by decide) J J J)
end
section
open Go.RowKit

def firstDiff (a b : List Int) : Int := match (List.range (min a.length b.length)).find? (fun k => decide (a.getD k 0 ≠ b.getD k 0)) with
 | none => -1
 | some k => k
theorem fd_none {a b : List Int} (h : ∀ k (h1 : k < a.length) (h2 : k < b.length),a[k] = b[k]) : firstDiff a b = -1 := by
 have h1 : (List.range (min a.length b.length)).find? (fun k => decide (a.getD k 0 ≠ b.getD k 0)) = none := by
  rw [List.find?_eq_none]
  intro k hk
  rw [List.mem_range] at hk
  have h1 : k < a.length := by omega
  have h2 : k < b.length := by omega
  simpa [List.getD_eq_getElem?_getD,h1,h2] using h k h1 h2
 rw [firstDiff,h1]
theorem fd_hit {a b : List Int} {k : Nat} (h1 : k < a.length) (h2 : k < b.length) (h : ∀ j (h1 : j < a.length) (h2 : j < b.length),j < k → a[j] = b[j]) (hk : a[k] ≠ b[k]) : firstDiff a b = k := by
 have h3 : (List.range (min a.length b.length)).find? (fun k => decide (a.getD k 0 ≠ b.getD k 0)) = some k := by
  rw [List.find?_range_eq_some]
  refine ⟨by simpa [List.getD_eq_getElem?_getD,h1,h2] using hk,by rw [List.mem_range]; omega,fun j hj => ?_⟩
  have h4 : j < a.length := by omega
  have h5 : j < b.length := by omega
  simpa [List.getD_eq_getElem?_getD,h4,h5] using h j h4 h5 hj
 rw [firstDiff,h3]
theorem fd_range (a b : List Int) : -1 ≤ firstDiff a b ∧ firstDiff a b ≤ a.length := by
 unfold firstDiff
 split
 ·omega
 ·rename_i k hk
  have := List.mem_of_find?_eq_some hk
  rw [List.mem_range] at this
  omega
theorem I_FirstDifference (a b : List Int) (ga : Enc.gd a) (gb : Enc.gd b) : Con Tryz.prog 59 [] [al a,al b] [] (I (firstDiff a b)) := by
 have hla := Ym a
 have hlb := Ym b
 have g1 := ga.1
 refine Con.of Tryz.func59 J Tryz.ntmps59 J (fun E => ?_)
 refine Wz [11,20,11,13] ?_;refine Xi (fun m st => ∃ k : Nat,k + m = a.length ∧ ((k ≤ b.length ∧ ∀ j (h1 : j < a.length) (h2 : j < b.length),j < k → a[j] = b[j])) ∧ st = (⟨_,[(0,L a),(1,L b),(5,I k)],[]⟩ : St)) (a.length) ⟨_,⟨0,by omega,⟨Nat.zero_le _,fun j _ _ h => absurd h (Nat.not_lt_zero _)⟩,J⟩,X7 [] (by kernel_rfl)⟩ ?_
 rintro m_A _ ⟨k,hk_A,hp_A,rfl⟩
 obtain ⟨hp1,hp2⟩ := hp_A
 refine Wz [36,12,48,0,129] ?_;refine zx (Qt.grdT J J J (.hit .stop) (fun hgrd => Qa J J J)) J ?_;refine zx (Qt.grdT J J J (.hit (.hit .stop)) (fun hgrd => Zr J J J)) J ?_;refine zx (Qt.grdT J J J (.hit (.hit (.hit .stop))) (fun hgrd => Zx J J J J)) J ?_;refine Wz [76,1] ?_
 refine Xb J (fun h => ?_) (fun h => ?_)
 ·simp only [Bool.and_eq_true,decide_eq_true_eq] at h
  have h3 : k < a.length := by omega
  have h4 : k < b.length := by omega
  have hat := Yl h3
  have hat2 := Yl h4
  by_cases he : a[k] = b[k]
  ·have hb : decide (a[k] ≠ b[k]) = false := decide_eq_false (fun h => h he)
   refine Wz [29,20] ?_;refine Xh u8_18 u8_36 u8_37 J ?_;refine Wz [3,3,101,102,3,3,101,102,138,31,45,50] ?_
   exact ⟨a.length - (k + 1),by omega,_,⟨k + 1,by omega,⟨by omega,fun j h1 h2 hj => by by_cases e : j = k; subst e; exact he; exact hp2 j h1 h2 (by omega)⟩,J⟩,X7 [] (by kernel_rfl)⟩
  ·have hb : decide (a[k] ≠ b[k]) = true := decide_eq_true he
   rw [fd_hit h3 h4 hp2 he]
   refine Wz [29,20] ?_;refine Xh u8_18 u8_36 u8_37 J ?_;refine Wz [3,3,101,102,3,3,101,102,138,31,9,7,2,75,63,25] ?_
   exact Xn J J (X6 [] (by decide) J J J)
 ·simp only [Bool.and_eq_false_iff,decide_eq_false_iff_not] at h
  rw [fd_none (fun j h1 h2 => hp2 j h1 h2 (by omega))]
  refine Wz [32,11,67] ?_
  exact Xn J J (X6 [] (by decide) J J J)
noncomputable def cleanUpTo (p q : TPeer) : Int := if peerOk p = true ∧ peerOk q = true then (if firstDiff p.Sums q.Sums < 0 then min (p.Sums.length : Int) q.Sums.length - 1 else firstDiff p.Sums q.Sums - 1) else -1
theorem clean_no {p q : TPeer} (h : ¬ (peerOk p = true ∧ peerOk q = true)) : cleanUpTo p q = -1 := if_neg h
theorem clean_neg {p q : TPeer} (h : peerOk p = true ∧ peerOk q = true) (hf : firstDiff p.Sums q.Sums < 0) : cleanUpTo p q = min (p.Sums.length : Int) q.Sums.length - 1 := by rw [cleanUpTo,if_pos h,if_pos hf]
theorem clean_pos {p q : TPeer} (h : peerOk p = true ∧ peerOk q = true) (hf : ¬ firstDiff p.Sums q.Sums < 0) : cleanUpTo p q = firstDiff p.Sums q.Sums - 1 := by rw [cleanUpTo,if_pos h,if_neg hf]
theorem I_CleanUpTo (p q : TPeer) (gp : Enc.gd p) (gq : Enc.gd q) : Con Tryz.prog 15 [] [ag p,ag q] [] (I (cleanUpTo p q)) := by
 have hcp := Xs p gp
 have hcq := Xs q gq
 have gSp : Enc.gd p.Sums := gp.2.2.2.2.2.2.2.2.2.1
 have gSq : Enc.gd q.Sums := gq.2.2.2.2.2.2.2.2.2.1
 have hlp := Ym p.Sums
 have hlq := Ym q.Sums
 have g1 := gSp.1
 have g2 := gSq.1
 cases hop : peerOk p with
 | false =>
  rw [hop] at hcp
  rw [clean_no (by simp [hop])]
  refine Con.of Tryz.func15 J Tryz.ntmps15 J (fun E => ?_)
  refine Wz [26,79,22,15] ?_;refine zx (Qj J J (hcp) J) J ?_;refine Wz [14,44,84,24,9,55] ?_
  exact Xn J J (X6 [] (by decide) J J J)
 | true =>
 rw [hop] at hcp
 cases hoq : peerOk q with
 | false =>
  rw [hoq] at hcq
  rw [clean_no (by simp [hoq])]
  refine Con.of Tryz.func15 J Tryz.ntmps15 J (fun E => ?_)
  refine Wz [26,79,22,15] ?_;refine zx (Qj J J (hcp) J) J ?_;refine Wz [14,30,27,6] ?_;refine zx (Qj J J (hcq) J) J ?_;refine Wz [6,14,8,9,55] ?_
  exact Xn J J (X6 [] (by decide) J J J)
 | true =>
 rw [hoq] at hcq
 have hf := I_FirstDifference p.Sums q.Sums gSp gSq
 have hr := fd_range p.Sums q.Sums
 by_cases hn : firstDiff p.Sums q.Sums < 0
 ·rw [clean_neg ⟨hop,hoq⟩ hn]
  generalize firstDiff p.Sums q.Sums = d at hn hf hr
  have hb1 : decide (d < 0) = true := decide_eq_true hn
  have hb2 : decide (0 ≤ d) = false := decide_eq_false (by omega)
  refine Con.of Tryz.func15 J Tryz.ntmps15 J (fun E => ?_)
  refine Wz [26,79,22,15] ?_;refine zx (Qj J J (hcp) J) J ?_;refine Wz [14,30,27,6] ?_;refine zx (Qj J J (hcq) J) J ?_;refine Wz [6,14,8,35,5,17] ?_;refine zx (Qj J J (hf) J) J ?_;refine Wz [56,10,9,5,12,17,12] ?_;refine zx (q_min J J J J) J ?_;refine Wz [73,2,75,25] ?_
  exact Xn J J (X6 [] (by decide) J J (Xy (by rw [hlp,hlq])))
 ·rw [clean_pos ⟨hop,hoq⟩ hn]
  generalize firstDiff p.Sums q.Sums = d at hn hf hr
  have hb1 : decide (d < 0) = false := decide_eq_false hn
  have hb2 : decide (0 ≤ d) = true := decide_eq_true (by omega)
  refine Con.of Tryz.func15 J Tryz.ntmps15 J (fun E => ?_)
  refine Wz [26,79,22,15] ?_;refine zx (Qj J J (hcp) J) J ?_;refine Wz [14,30,27,6] ?_;refine zx (Qj J J (hcq) J) J ?_;refine Wz [6,14,8,35,5,17] ?_;refine zx (Qj J J (hf) J) J ?_;refine Wz [56,10,35,7,73,34] ?_
  exact Xn J J (X6 [] (by decide) J J J)
end
end Go.Proofs.YtpmacgnmlmmojaaGreatDoor
