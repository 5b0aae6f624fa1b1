/-
  Parts of the proof (rules, data, and what functions of the program and of the reference return), among them: What is found out about the two peers: the steps' conditions, the sums, the parts; RunHunt: two lists that agree up to a place and nowhere behind it.
  Conditions: those that each theorem names.
-/
import Derived.Test.YtpmacgnmlmmojaaGreatDoorDDDgRowk13
import Derived.Test.YtpmacgnmlmmojaaGreatDoorDDDgRowk15
import Derived.Test.YtpmacgnmlmmojaaGreatDoorDDDgRowk16
import Derived.Test.YtpmacgnmlmmojaaGreatDoorDDDgRowk21
import Derived.Test.YtpmacgnmlmmojaaGreatDoorDDDgRowk23
import Derived.Test.YtpmacgnmlmmojaaGreatDoorDDDgRowk25
import Derived.Test.YtpmacgnmlmmojaaGreatDoorDDDgRowk26
import Derived.Test.YtpmacgnmlmmojaaGreatDoorDDDgRowk27
set_option linter.unusedVariables false
set_option linter.unusedSimpArgs false
set_option maxRecDepth 8000
set_option maxHeartbeats 8000000
namespace Go.Proofs.YtpmacgnmlmmojaaGreatDoor
section
open Go.RowKit

theorem Con.kit {P : Program} {f : FuncId} {args : List V2} {x : Value} (hx : x.oneCell' = true)
  (h : ∀ (w : World) (H : Hs) (F : Nat → Prop) (vs : List Value),Ok w H F → (∀ p,H p = .nil) → vs.length = args.length → (∀ (i : Nat) (x : V2) (v : Value),args[i]? = some x → vs[i]? = some v → R2 w H F x v) → Calls P f vs.toArray w fun e w' => e = .returned x ∧ Below w.heap.size w w') :
  Con P f [] args [] (.o (.c (.rd [] (.v x)))) := by
 intro w H F vs hok hob hlen hargs
 have hnil : ∀ p,H p = .nil := fun p => by simpa [RB] using hob p
 refine (h w H F vs hok hnil hlen hargs).mono ?_
 rintro e w' ⟨rfl,hb⟩
 refine ⟨H,F,x,J,⟨hb.os,hb.tape,hb.output,hb.size,fun b h1 _ => hb.block b h1,fun _ h => h,fun _ h => .inl h,fun p b hb => .inl ⟨p,hb⟩,fun p i v h => ⟨p,h⟩⟩,⟨fun p => ?_,hok.nodup,hok.disj,hok.free,fun b h => Nat.lt_of_lt_of_le (hok.flt b h) hb.size⟩,fun p => ?_,RO.v _ hx⟩
 ·rw [hnil p]; trivial
 ·show RB w' H F p .gone
  exact hnil p
end
section
open Go.RowKit

def fmtN (k : Nat) : ByteArray := bs (Lib.decDigits k)
def decG (m : Nat) : List UInt8 := if m = 0 then [] else Lib.decDigits m
theorem decG_step {m : Nat} (h : m ≠ 0) : decG m = decG (m / 10) ++ [UInt8.ofNat (48 + m % 10)] := by
 rw [decG,if_neg h]
 by_cases h1 : m < 10
 ·rw [Lib.decDigits_one h1,decG,if_pos (by omega),Nat.mod_eq_of_lt h1]; rfl
 ·rw [Lib.decDigits,dif_neg h1,decG,if_neg (by omega)]
theorem dec_len (m : Nat) : (Lib.decDigits m).length ≤ m + 1 := by
 induction m using Nat.strongRecOn with
 | ind m ih =>
  by_cases h : m < 10
  ·rw [Lib.decDigits_one h]; simp
  ·rw [Lib.decDigits,dif_neg h,List.length_append]
   have := ih (m / 10) (by omega)
   simp only [List.length_cons,List.length_nil]
   omega
theorem Yv (k : Nat) : (fmtN k).size ≤ k + 1 := by rw [fmtN,Yg]; exact dec_len k
theorem I_Itoa (k : Nat) (h : k < 100) : Con Tryz.prog 204 [] [ai k] [] (S (fmtN k)) := by
 refine Con.kit J fun w H F vs hok hnil hlen hargs => ?_
 match vs,hlen with
 | [v],_ =>
  obtain ⟨rfl,_⟩ : v = .int .i64 k ∧ _ := RO.plain (hargs 0 _ v rfl rfl)
  exact (Tryz.strconv_Itoa_small k h w).mono fun e w' ⟨he,hw⟩ => ⟨he,hw ▸ Below.refl _ _⟩
theorem Xp (k : Nat) (h : k < 100) : Con Tryz.prog 141 [] [ai k] [] (S (fmtN k)) := by
 have hc := I_Itoa k h
 refine Con.of Tryz.func141 J Tryz.ntmps141 J (fun E => ?_)
 refine Wz [11,7] ?_;refine zx (Qj J J (hc) J) J ?_;refine Wz [34] ?_
 exact Xn J J (X6 [] (by decide) J J J)
theorem S_l01Figure (d : Int) (h0 : 0 ≤ d) (h : d < 10) : Con Tryz.prog 60 [] [ai d] [] (VI .u8 (48 + d)) := by
 have hb : decide (d < 10) = true := decide_eq_true h
 refine Con.of Tryz.func60 J Tryz.ntmps60 J (fun E => ?_)
 refine Wz [11,28,10,9,7,71,161,2,75,25] ?_
 exact Xn J J (X6 [] (by decide) J J J)
theorem S_FormatInt (n : Nat) (hn : n ≤ 1099511627776) : Con Tryz.prog 17 [] [ai n] [] (S (fmtN n)) := by
 by_cases h0 : n = 0
 ·subst h0
  have hb0 : decide (((0 : Nat) : Int) = 0) = true := decide_eq_true rfl
  refine Con.of Tryz.func17 J Tryz.ntmps17 J (fun E => ?_)
  refine Wz [11,28,19,9,55] ?_
  exact Xn J J (X6 [] (by decide) J J (S_eq (by rw [fmtN,Lib.decDigits_one (by decide)]; rfl)))
 have hb0 : decide ((n : Int) = 0) = false := decide_eq_false (by omega)
 have hb1 : decide ((n : Int) < 0) = false := decide_eq_false (by omega)
 have hdl := dec_len n
 refine Con.of Tryz.func17 J Tryz.ntmps17 J (fun E => ?_)
 refine Wz [11,28,19,35,7,10,2,11,20,13] ?_;refine Xi (fun m__ st => ∃ (m : Nat) (acc : List UInt8),m = m__ ∧ (decG m ++ acc = Lib.decDigits n ∧ m ≤ n) ∧ st = (⟨_,[(0,I m),(3,B false),(4,S (bs acc))],[]⟩ : St)) _ ⟨_,⟨n,[],J,⟨by rw [decG,if_neg h0,List.append_nil],Nat.le_refl _⟩,J⟩,X7 [] (by kernel_rfl)⟩ ?_
 rintro m_A _ ⟨m,acc,hk_A,hp_A,rfl⟩
 obtain ⟨hp1,hp2⟩ := hp_A
 have hal : acc.length ≤ n + 1 := by rw [← hp1,List.length_append] at hdl; omega
 refine Wz [28,114,1] ?_
 refine Xb J (fun h => ?_) (fun h => ?_)
 ·have h3 : m ≠ 0 := by have := of_decide_eq_true h; omega
  have hb2 : decide ((m : Int) % 10 < 0) = false := decide_eq_false (by omega)
  have hc := S_l01Figure ((m : Int) % 10) (by omega) (by omega)
  have hsz := Yg acc
  have hs1 : (bs [UInt8.ofNat (48 + (m : Int) % 10).toNat]).size = 1 := Yg _
  have hnx : decG (m / 10) ++ ([UInt8.ofNat (48 + (m : Int) % 10).toNat] ++ acc) = Lib.decDigits n := by rw [← hp1,decG_step h3,List.append_assoc]; congr 3
  refine Wz [68,13,7,122,56,10,35,7] ?_;refine zx (Qj J J (hc) J) J ?_;refine M1 (Zg J J J J J J) J J (zx (q_bstrb J J J J J) J (z0 J ?_))
  refine M0 (q_cat J J J J (by simp only [Yg,Yj,List.length_cons,List.length_nil,List.length_append]; omega)) J J ?_
  refine Wz [2,49,137,51,90] ?_
  refine ⟨_,(by omega),(fun (m : Nat) (acc : List UInt8) => (⟨_,[(0,I m),(3,B false),(4,S (bs acc))],[]⟩ : St)) (m / 10) ([UInt8.ofNat (48 + (m : Int) % 10).toNat] ++ acc),⟨m / 10,[UInt8.ofNat (48 + (m : Int) % 10).toNat] ++ acc,J,⟨hnx,by omega⟩,J⟩,X8 [] (by decide) J (by kernel_rfl) (.cons (Xy (by omega)) (.c J (.cons (S_eq (bs_app _ _)) (.nil))))⟩
 ·have h3 : m = 0 := by have := of_decide_eq_false h; omega
  subst h3
  refine Wz [32,28,35,7,34] ?_
  exact Xn J J (X6 [] (by decide) J J (S_eq (by rw [fmtN,← hp1]; rfl)))
end
section
open Go.RowKit

def seedB : ByteArray := bs [115,101,101,100]
def scoreN (k : Nat) : ByteArray := bs [115,99,111,114,101,32] ++ fmtN k
def bodyN (k : Nat) : ByteArray := bs [98,111,100,121,32] ++ fmtN k
end
section
open Go.RowKit

def zB : TBody := ⟨0,0,0,0,0,0,0,0,0⟩
end
section
open Go.RowKit

def dSeed (a b : TWorld) : List ByteArray := if a.Seed ≠ b.Seed then [seedB] else []
def scDiff (a b : TWorld) (k : Nat) : Bool := decide (b.Scores.length ≤ k) || decide (a.Scores.getD k 0 ≠ b.Scores.getD k 0)
def boDiff (a b : TWorld) (k : Nat) : Bool := decide (b.Bodies.length ≤ k) || decide (bodyInts (a.Bodies.getD k zB) ≠ bodyInts (b.Bodies.getD k zB))
def dS (a b : TWorld) (n : Nat) : List ByteArray := dSeed a b ++ ((List.range n).filter (scDiff a b)).map scoreN
def dB (a b : TWorld) (m : Nat) : List ByteArray := dS a b a.Scores.length ++ ((List.range m).filter (boDiff a b)).map bodyN
def dC (a b : TWorld) (j : Nat) : List ByteArray := dB a b a.Bodies.length ++ (List.range' a.Scores.length j).map scoreN
def dD (a b : TWorld) (j : Nat) : List ByteArray := dC a b (b.Scores.length - a.Scores.length) ++ (List.range' a.Bodies.length j).map bodyN
noncomputable def differ (a b : TWorld) : List ByteArray := if worldOk a = true ∧ worldOk b = true then dD a b (b.Bodies.length - a.Bodies.length) else []
theorem Yt {α : Type} {p : Nat → Bool} {f : Nat → α} {n : Nat} (l : List α) (h : p n = true) : l ++ ((List.range (n + 1)).filter p).map f = (l ++ ((List.range n).filter p).map f) ++ [f n] := by
 rw [List.range_succ,List.filter_append,List.map_append,List.append_assoc]
 simp [h]
theorem filt_no {α : Type} {p : Nat → Bool} {f : Nat → α} {n : Nat} (l : List α) (h : p n = false) : l ++ ((List.range (n + 1)).filter p).map f = l ++ ((List.range n).filter p).map f := by
 rw [List.range_succ,List.filter_append,List.map_append]
 simp [h]
theorem rng_snoc {α : Type} {f : Nat → α} {a j : Nat} (l : List α) : l ++ (List.range' a (j + 1)).map f = (l ++ (List.range' a j).map f) ++ [f (a + j)] := by
 rw [List.range'_1_concat,List.map_append,List.append_assoc]
 rfl
section
variable {x : TWorld} (ho : worldOk x = true)
include ho
end
end
section
open Go.RowKit

section
variable {w : TWorld} {s : Int} {k i : Nat} (ho : worldOk w = true)
include ho
end
theorem rng_one {n k : Nat} (hk : k < n) {p : Nat → Bool} (h : ∀ j,j < n → p j = decide (j = k)) : (List.range n).filter p = [k] := by
 rw [List.filter_congr (q := fun j => decide (j = k)) (fun j hj => h j (List.mem_range.1 hj))]
 clear h
 induction n with
 | zero => exact absurd hk (Nat.not_lt_zero _)
 | succ n ih =>
  rw [List.range_succ,List.filter_append]
  by_cases e : n = k
  ·subst e
   have : (List.range n).filter (fun j => decide (j = n)) = [] := List.filter_eq_nil_iff.2 fun j hj => by have := List.mem_range.1 hj; simp; omega
   rw [this]
   simp
  ·rw [ih (by omega)]
   simp [e]
theorem rng_nil {n : Nat} {p : Nat → Bool} (h : ∀ j,j < n → p j = false) : (List.range n).filter p = [] := List.filter_eq_nil_iff.2 fun j hj => by rw [h j (List.mem_range.1 hj)]; decide
theorem dif_eq {a b : TWorld} (ha : worldOk a = true) (hb : worldOk b = true) (h1 : a.Scores.length = b.Scores.length) (h2 : a.Bodies.length = b.Bodies.length) : differ a b = (dSeed a b ++ ((List.range a.Scores.length).filter (scDiff a b)).map scoreN) ++ ((List.range a.Bodies.length).filter (boDiff a b)).map bodyN := by
 rw [differ,if_pos ⟨ha,hb⟩,dD,dC,dB,dS,h1,h2,Nat.sub_self,Nat.sub_self]
 simp
section
variable {w : TWorld} {s : Int} {k i : Nat}
end
end
section
open Go.RowKit

section
variable {l : TLevel} {n : Nat} {seed : Int} {rows : List (List Int)} {f : TFault} {W : Nat → TWorld} {t u k j me : Nat} {ah : Int} {r : List Int}
theorem PW.rgd (h : PW l n seed rows f W me ah) (hr : rows[t]? = some r) : Enc.gd r := by
 have h1 := h.hr r (List.mem_of_getElem? hr)
 have hn := h.hn
 rw [rowOk,Bool.and_eq_true,decide_eq_true_eq] at h1
 exact ⟨by omega,fun x hx => by
  have := Y0.1 (List.all_eq_true.1 h1.2 x hx)
  exact ⟨by omega,by omega⟩⟩
theorem PW.base (h : PW l n seed rows f W me ah) (ht : t ≤ u) (hu : u ≤ rows.length) : PeerIn (peT rows n seed me ah f W t u 0) ∧ peerOk (peT rows n seed me ah f W t u 0) = true :=
 ⟨h.inn (by omega) (by omega) ⟨by simp,fun r hr => by simp at hr⟩ (by simp) ⟨by simp,fun x hx => by simp at hx⟩,h.ok (Nat.le_refl _) ht hu (by omega) ⟨by simp,fun r hr => by simp at hr⟩ ⟨by simp,fun k hk => by simp at hk⟩⟩
theorem PW.adv (h : PW l n seed rows f W me ah) (hr : rows[t]? = some r) : AdvIn (peT rows n seed me ah f W t (t + 1) 0) me t := by
 have hlt := Yx hr
 have hb := h.base (t := t) (u := t + 1) (by omega) (by omega)
 have hrow : rowAt (peT rows n seed me ah f W t (t + 1) 0).Tracks t = r := trK_row h.hr hr (by omega) (by omega)
 refine ⟨hb.1,hb.2,J,J,J,by show me < (trK rows n (t + 1) 0).length; rw [Ke]; exact h.hm,h.ws.tk t (by omega),trK_kn (by omega) (by omega),?_,?_,?_,?_⟩
 ·rw [hrow]; exact h.rgd hr
 ·rw [hrow]; show (stepW (W t) r).Scores.length = (W t).Scores.length; rw [h.ws.sl_ t r hr,h.ws.sn t (by omega)]
 ·rw [hrow]; exact h.ws.ss t r hr
 ·rw [hrow]; show (stepW (W t) r).Level = (W t).Level; rw [h.ws.sv t r hr,h.ws.lv t (by omega)]
theorem PW.row (h : PW l n seed rows f W me ah) (hr : rows[t]? = some r) : rowAt (peT rows n seed me ah f W t (t + 1) 0).Tracks t = r := by
 have hlt := Yx hr
 exact trK_row h.hr hr (by omega) (by omega)
theorem PW.advE (h : PW l n seed rows f W me ah) (hr : rows[t]? = some r) : advP (peT rows n seed me ah f W t (t + 1) 0) r = ⟨me,0,ah,seed,trK rows n (t + 1) 0,W t,W (t + 1),[r],[⟨(W t).Tick,deltaT (worldBytes (W t)) (worldBytes (W t))⟩],(List.range (t + 1)).map fun j => wsum (W j),f,0,0⟩ := by
 unfold advP peT
 simp only
 rw [h.ws.st t r hr]
theorem PW.con (h : PW l n seed rows f W me ah) (hr : rows[t]? = some r) : ConIn (advP (peT rows n seed me ah f W t (t + 1) 0) r) t := by
 have hlt := Yx hr
 have hL := h.hL
 have hd : (deltaT (worldBytes (W t)) (worldBytes (W t))).size ≤ 1048576 := by
  have h5 := deltaT_size (worldBytes (W t)) (worldBytes (W t))
  have h6 := bytes_len (W t)
  omega
 have hk := h.ws.tk t (by omega)
 have hus : ([r] : List (List Int)).length ≤ 1 ∧ ∀ x ∈ [r],x ∈ rows := ⟨by simp,fun x hx => by rw [List.mem_singleton.1 hx]; exact List.mem_of_getElem? hr⟩
 rw [h.advE hr]
 refine ⟨h.inn (by omega) (by omega) hus (by simp) ⟨by simp,fun x hx => ?_⟩,h.ok (by omega) (by omega) (by omega) (by omega) ⟨by simp,hus.2⟩ ⟨by simp,fun k hk2 => ?_⟩,hk,by omega,h.ws.tk (t + 1) (by omega),?_,trK_kn (by omega) (by omega)⟩
 ·rw [List.mem_singleton.1 hx]
  refine ⟨⟨?_,?_⟩,?_⟩
  ·show _ ≤ (W t).Tick; omega
  ·show (W t).Tick ≤ _; omega
  ·show (deltaT (worldBytes (W t)) (worldBytes (W t))).size ≤ _; omega
 ·have hk0 : k = 0 := by simpa using hk2
  subst hk0
  show (W t).Tick = (t : Int) + 0
  omega
 ·show [r] = [rowAt (trK rows n (t + 1) 0) t]
  rw [trK_row h.hr hr (by omega) (by omega)]
theorem PW.conE (h : PW l n seed rows f W me ah) (hr : rows[t]? = some r) : conP (advP (peT rows n seed me ah f W t (t + 1) 0) r) = peT rows n seed me ah f W (t + 1) (t + 1) 0 := by
 rw [h.advE hr]
 unfold conP peT
 simp only
 rw [List.range_succ (n := t + 1),List.map_append]
 rfl
theorem PW.newE (h : PW l n seed rows f W me ah) : newPe (newWorld l n seed) n me ah seed f = peT rows n seed me ah f W 0 0 0 := by
 have e : (List.range (0 + 1)).map (fun j => wsum (W j)) = [wsum (newWorld l n seed)] := by
  rw [show (List.range (0 + 1)).map (fun j => wsum (W j)) = [wsum (W 0)] from rfl,h.ws.w0]
 unfold newPe peT
 rw [e,h.ws.w0,trK_zero]
theorem PW.run (h : PW l n seed rows f W me ah) {F : Nat} (hF : F ≤ rows.length) : RunIn W (trK rows n rows.length 0) f F := by
 have hrow : ∀ k,k < F → ∃ r,rows[k]? = some r ∧ rowAt (trK rows n rows.length 0) k = r := fun k hk => ⟨_,List.getElem?_eq_getElem (by omega),trK_row h.hr (List.getElem?_eq_getElem (by omega)) (by omega) (Nat.le_refl _)⟩
 refine ⟨fun k hk => h.ws.wi k (by omega),fun k hk => ?_,fun k hk => ?_,fun k hk => ?_,fun k hk => ?_,fun k hk => ?_,fun k hk => trK_kn (by omega) (Nat.le_refl _)⟩ <;> obtain ⟨r,h1,h2⟩ := hrow k hk <;> rw [h2]
 ·exact (h.ws.st k r h1).symm
 ·rw [h.ws.sl_ k r h1,h.ws.sn k (by omega)]
 ·exact h.ws.ss k r h1
 ·rw [h.ws.sv k r h1,h.ws.lv k (by omega)]
 ·exact h.rgd h1
end
/-! ### The two of them -/
theorem differ_plus {w : TWorld} {P : Nat} {A c : Int} (ho : worldOk w = true) (hP : P < w.Scores.length) (hc : ∀ x ∈ w.Scores,x ≤ c) (ha : 0 < A) (hb : c + A ≤ 1000000) : differ w (plusW w P A) = [scoreN P] := by
 have hv := plus_ok (a := A) ho hP hc (by omega) hb
 have hl : (plusW w P A).Scores.length = w.Scores.length := Zd
 have hat : ∀ j,j < w.Scores.length → (plusW w P A).Scores.getD j 0 = if j = P then w.Scores[P] + A else w.Scores.getD j 0 := fun j hj => by
  show (plusL w.Scores P A).getD j 0 = _
  rw [List.getD_eq_getElem?_getD,plus_at hP]
  split
  ·rfl
  ·rw [List.getD_eq_getElem?_getD]
 rw [dif_eq ho hv hl.symm rfl,rng_one hP (fun j hj => ?_),rng_nil (fun j hj => ?_)]
 ·unfold dSeed
  rw [if_neg (fun h => h rfl)]
  rfl
 ·unfold boDiff
  show (decide (w.Bodies.length ≤ j) || decide (bodyInts (w.Bodies.getD j zB) ≠ bodyInts (w.Bodies.getD j zB))) = false
  rw [decide_eq_false (by omega),decide_eq_false (fun h => h rfl)]
  rfl
 ·unfold scDiff
  rw [hl,decide_eq_false (by omega),Bool.false_or,hat j hj]
  by_cases e : j = P
  ·subst e
   rw [if_pos rfl,decide_eq_true rfl,List.getD_eq_getElem?_getD,List.getElem?_eq_getElem hj,Option.getD_some]
   exact decide_eq_true (by omega)
  ·rw [if_neg e,decide_eq_false e]
   exact decide_eq_false (fun h => h J)
section
variable {l : TLevel} {n : Nat} {seed : Int} {rows : List (List Int)} {F P A e k : Nat}
theorem sum_same (h : k < F) : wsum (lockQ l n seed rows F P A k) = wsum (lockW l n seed rows k) := by rw [lockQ,if_pos h]
theorem sum_diff (h : RD l n seed e rows) (hk : ¬ k < F) (hP : P < n) (hA : 1 ≤ A ∧ A ≤ 9) : wsum (lockQ l n seed rows F P A k) ≠ wsum (lockW l n seed rows k) := by
 rw [lockQ,if_neg hk]
 exact wsum_ne (h.good k).1 (by rw [(h.good k).2.2.2]; exact hP) (h.score k) hA
noncomputable def sumsL (W : Nat → TWorld) (L : Nat) : List Int := (List.range (L + 1)).map fun j => wsum (W j)
theorem Kd (W : Nat → TWorld) (L : Nat) : (sumsL W L).length = L + 1 := by simp [sumsL]
theorem Kc {W : Nat → TWorld} {L k : Nat} (h : k < (sumsL W L).length) : (sumsL W L)[k] = wsum (W k) := by simp [sumsL]
theorem fd_law (h : RD l n seed e rows) (hP : P < n) (hA : 1 ≤ A ∧ A ≤ 9) (L : Nat) : firstDiff (sumsL (lockW l n seed rows) L) (sumsL (lockQ l n seed rows F P A) L) = if F ≤ L then (F : Int) else -1 := by
 split
 ·rename_i hF
  refine fd_hit (by rw [Kd]; omega) (by rw [Kd]; omega) (fun j h1 h2 hj => ?_) ?_
  ·rw [Kc,Kc,sum_same hj]
  ·rw [Kc,Kc]
   exact fun q => sum_diff h (k := F) (by omega) hP hA q.symm
 ·rename_i hF
  refine fd_none fun j h1 h2 => ?_
  rw [Kd] at h1
  rw [Kc,Kc,sum_same (by omega)]
end
end
section
open Go.RowKit

theorem Xt (a b : List Int) (k : Nat) (ha : k < a.length) (hb : k < b.length) : Con Tryz.prog 139 [] [al a,al b,ai k] [] (B (decide (a[k] = b[k]))) := by
 have hla := Ym a
 have hlb := Ym b
 have e1 := Yl ha
 have e2 := Yl hb
 have f1 : decide (0 ≤ (k : Int)) = true := decide_eq_true (by omega)
 have f2 : decide ((k : Int) < ((els a).length : Int)) = true := decide_eq_true (by omega)
 have f3 : decide ((k : Int) < ((els b).length : Int)) = true := decide_eq_true (by omega)
 refine Con.of Tryz.func139 J Tryz.ntmps139 J (fun E => ?_)
 refine Wz [11,20] ?_;refine Xh [[],[0],[0,1],[0,1,2],[0,1,2],[0,1,2,4],(u9 6),(u9 7),(u9 8),(u9 9),(u9 9),[0,1,2,3,4,5,6,7,8,10],(u9 12),(u9 13),(u9 14),(u9 15),(u9 15),(u9 17),(u9 18),(u9 15),(u9 15),[0,1,2,3,4,5,6,7,8,9,10,11,12,13,14,19,20],[0,1,2,3,4,5,6,7,8,9,10,11,12,13,14,19,20,21],(u9 23),(u9 24),(u9 25)] [[],[7],[7,8],[7,8,9],[7,8,9],[7,8,9,11],[7,8,9,10,11,12],[7,8,9,10,11,12,13],[7,8,9,10,11,12,13,14],[7,8,9,10,11,12,13,14,15],[7,8,9,10,11,12,13,14,15],[7,8,9,10,11,12,13,14,15,17],[7,8,9,10,11,12,13,14,15,16,17,18],[7,8,9,10,11,12,13,14,15,16,17,18,19],[7,8,9,10,11,12,13,14,15,16,17,18,19,20],[7,8,9,10,11,12,13,14,15,16,17,18,19,20,21],[7,8,9,10,11,12,13,14,15,16,17,18,19,20,21],[7,8,9,10,11,12,13,14,15,16,17,18,19,20,21,22,23],[7,8,9,10,11,12,13,14,15,16,17,18,19,20,21,22,23,24],[7,8,9,10,11,12,13,14,15,16,17,18,19,20,21],[7,8,9,10,11,12,13,14,15,16,17,18,19,20,21],[7,8,9,10,11,12,13,14,15,16,17,18,19,20,21,26,27],[7,8,9,10,11,12,13,14,15,16,17,18,19,20,21,26,27,28],[7,8,9,10,11,12,13,14,15,16,17,18,19,20,21,22,23,24,25,26,27,28,29],[7,8,9,10,11,12,13,14,15,16,17,18,19,20,21,22,23,24,25,26,27,28,29,30],[7,8,9,10,11,12,13,14,15,16,17,18,19,20,21,22,23,24,25,26,27,28,29,30,31]] [[],[],[],[11,12],[10],[10],[],[],[],[17,18],[16],[16],[],[],[],[23,26,27,28,29],[22,26,27,28,29],[26,27,28,29],[26,27,28,29],[22,23,24,25,27],[22,23,24,25,26],[22,23,24,25],[22,23,24,25],[],[],[]] J ?_;refine Wz [3,132,3,66,66,147] ?_;refine DR.s (Qt.yes J J J (Qr J J J J (by assumption))) J J ?_;refine Wz [65,3,66,66,147] ?_;refine DR.s (Qt.yes J J J (Qr J J J J (by assumption))) J J ?_;refine Wz [65,3,66,66,103,127,66,66,103,127] ?_;refine DR.s (Qt.yes J J J (Zm J J J J)) J J ?_;refine Wz [65,109,31,1,67] ?_
 exact Xn J J (X6 [] (by decide) J J J)
theorem I_ProbeNo (lo hi : Nat) (s : Int) (h : lo < hi) (h2 : hi - lo < 2) (hm : hi ≤ 1000) : Con Tryz.prog 137 [] [.ag [jn lo,jn hi,jn s]] [] (I (-1)) := by
 have f1 : decide ((1000000 : Int) < hi) = false := decide_eq_false (by omega)
 by_cases h3 : hi < 2
 ·have f2 : decide ((hi : Int) < 2) = true := decide_eq_true (by omega)
  refine Con.of Tryz.func137 J Tryz.ntmps137 J (fun E => ?_)
  refine Wz [26,22,5,85,57,10,8,44,84,24,44,53,53,24,9,55] ?_
  exact Xn J J (X6 [] (by decide) J J J)
 have f2 : decide ((hi : Int) < 2) = false := decide_eq_false (by omega)
 have f3 : decide ((lo : Int) < 0) = false := decide_eq_false (by omega)
 have f4 : decide ((hi : Int) - 2 < lo) = true := decide_eq_true (by omega)
 refine Con.of Tryz.func137 J Tryz.ntmps137 J (fun E => ?_)
 refine Wz [26,22,5,85,57,10,8,57,10,8,57,116,73,6,85,8,9,55] ?_
 exact Xn J J (X6 [] (by decide) J J J)
theorem I_Probe (lo hi : Nat) (s : Int) (h : lo + 2 ≤ hi) (hm : hi ≤ 1000) : Con Tryz.prog 137 [] [.ag [jn lo,jn hi,jn s]] [] (I ((lo + hi) / 2 : Nat)) := by
 have f1 : decide ((1000000 : Int) < hi) = false := decide_eq_false (by omega)
 have f2 : decide ((hi : Int) < 2) = false := decide_eq_false (by omega)
 have f3 : decide ((lo : Int) < 0) = false := decide_eq_false (by omega)
 have f4 : decide ((hi : Int) - 2 < lo) = false := decide_eq_false (by omega)
 refine Con.of Tryz.func137 J Tryz.ntmps137 J (fun E => ?_)
 refine Wz [26,22,5,85,57,10,8,57,10,8,57,116,73,6,85,8,35,5,17,71,137,34] ?_
 exact Xn J J (X6 [] (by decide) J J J)
theorem I_Narrow (lo hi m : Nat) (s : Int) (b : Bool) (h : lo + 2 ≤ hi) (hm : hi ≤ 1000) (hs : 0 ≤ s ∧ s ≤ 10000) (he : (lo + hi) / 2 = m) (lo' hi' : Nat) (hb : (lo',hi') = if b = true then (m,hi) else (lo,m)) : Con Tryz.prog 138 [] [.ag [jn lo,jn hi,jn s],.c (bv b)] [] (.o (.ag [jn lo',jn hi',jn (s + 1)])) := by
 have c1 := I_Probe lo hi s h hm
 rw [he] at c1
 have f1 : decide ((m : Int) < 0) = false := decide_eq_false (by omega)
 have f2 : decide (s < 1000000) = true := decide_eq_true (by omega)
 cases b with
 | true =>
  rw [if_pos rfl] at hb
  cases hb
  refine Con.of Tryz.func138 J Tryz.ntmps138 J (fun E => ?_)
  refine Wz [26,18,1,15] ?_;refine zx (Qj J J (c1) J) J ?_;refine Wz [56,10,60,70,5,10,9,81,17,71,41,1,28,9,49,41,1,15,37,67] ?_
  exact Xl J J J J (X6 [] (by decide) J J J)
 | false =>
  rw [if_neg (by decide)] at hb
  cases hb
  refine Con.of Tryz.func138 J Tryz.ntmps138 J (fun E => ?_)
  refine Wz [26,18,1,15] ?_;refine zx (Qj J J (c1) J) J ?_;refine Wz [56,10,60,70,5,10,9,81,17,71,41,1,28,60,49,41,1,15,37,67] ?_
  exact Xl J J J J (X6 [] (by decide) J J J)
theorem I_StartNo (a b : List Int) (L : Nat) (ha : a.length = L + 1) (hb : b.length = L + 1) (hL : L ≤ 1000) (h0 : ∀ k (h1 : k < a.length) (h2 : k < b.length),a[k] = b[k]) : Con Tryz.prog 136 [] [al a,al b] [] (.tu [.ag [jn 0,jn 0,jn 0],.c (bv false)]) := by
 have hla := Ym a
 have hlb := Ym b
 have c1 := Xt a b 0 (by omega) (by omega)
 have c2 := Xt a b L (by omega) (by omega)
 rw [decide_eq_true (h0 0 (by omega) (by omega))] at c1
 rw [decide_eq_true (h0 L (by omega) (by omega))] at c2
 have e : min ((els a).length : Int) ((els b).length : Int) - 1 = L := by omega
 have f1 : decide ((L : Int) < 0) = false := decide_eq_false (by omega)
 rw [← e] at c2 f1
 refine Con.of Tryz.func136 J Tryz.ntmps136 J (fun E => ?_)
 refine Wz [4,18,2,7,12,0,12] ?_;refine zx (q_min J J J J) J ?_;refine Wz [73,56,10,16,30] ?_;refine zx (Qj J J (c1) J) J ?_;refine Wz [6,14,8,16,16] ?_;refine zx (Qj J J (c2) J) J ?_;refine Wz [8,9,4,108,40,2,75,25] ?_
 exact Xm J J J J J (X6 [] (by decide) J J J)
theorem I_StartHunt (a b : List Int) (L : Nat) (ha : a.length = L + 1) (hb : b.length = L + 1) (hL : L ≤ 1000) (h0 : a[0] = b[0]) (h1 : a[L] ≠ b[L]) : Con Tryz.prog 136 [] [al a,al b] [] (.tu [.ag [jn 0,jn L,jn 2],.c (bv true)]) := by
 have hla := Ym a
 have hlb := Ym b
 have c1 := Xt a b 0 (by omega) (by omega)
 have c2 := Xt a b L (by omega) (by omega)
 rw [decide_eq_true h0] at c1
 rw [decide_eq_false h1] at c2
 have e : min ((els a).length : Int) ((els b).length : Int) - 1 = L := by omega
 have f1 : decide ((L : Int) < 0) = false := decide_eq_false (by omega)
 rw [← e] at c2 f1 ⊢
 refine Con.of Tryz.func136 J Tryz.ntmps136 J (fun E => ?_)
 refine Wz [4,18,2,7,12,0,12] ?_;refine zx (q_min J J J J) J ?_;refine Wz [73,56,10,16,30] ?_;refine zx (Qj J J (c1) J) J ?_;refine Wz [6,14,8,16,16] ?_;refine zx (Qj J J (c2) J) J ?_;refine Wz [8,35,7,108,40,34] ?_
 exact Xm J J J J J (X6 [] (by decide) J J J)
def huntS (F : Nat) (lo hi s : Nat) : Nat := if hi - lo < 2 then s else if (lo + hi) / 2 < F then huntS F ((lo + hi) / 2) hi (s + 1) else huntS F lo ((lo + hi) / 2) (s + 1)
termination_by hi - lo
decreasing_by all_goals omega
theorem huntS_end {F lo hi s : Nat} (h : hi - lo < 2) : huntS F lo hi s = s := by rw [huntS,if_pos h]
theorem huntS_up {F lo hi s : Nat} (h : ¬ hi - lo < 2) (h2 : (lo + hi) / 2 < F) : huntS F lo hi s = huntS F ((lo + hi) / 2) hi (s + 1) := by rw [huntS,if_neg h,if_pos h2]
theorem huntS_dn {F lo hi s : Nat} (h : ¬ hi - lo < 2) (h2 : ¬ (lo + hi) / 2 < F) : huntS F lo hi s = huntS F lo ((lo + hi) / 2) (s + 1) := by rw [huntS,if_neg h,if_neg h2]
theorem I_HuntNo (a b : List Int) (L : Nat) (ha : a.length = L + 1) (hb : b.length = L + 1) (hL : L ≤ 1000) (h0 : ∀ k (h1 : k < a.length) (h2 : k < b.length),a[k] = b[k]) : Con Tryz.prog 54 [] [al a,al b] [] (.tu [.c (jn (-1)),.c (jn 0)]) := by
 have c1 := I_StartNo a b L ha hb hL h0
 refine Con.of Tryz.func54 J Tryz.ntmps54 J (fun E => ?_)
 refine Wz [4,72,2,39] ?_;refine M1 (Zk J J (c1) J J J) J J ?_;refine Wz [88,42,42,18,40,56,14,9,4,72,2,75,25] ?_
 exact E_tmp2 J J J (X6 [] (by decide) J J J)
theorem I_RunHunt (a b : List Int) (M F : Nat) (ha : a.length = M + 1) (hb : b.length = M + 1) (hL : M ≤ 1000) (hF : 1 ≤ F ∧ F ≤ M) (h0 : ∀ k (h1 : k < a.length) (h2 : k < b.length),k < F → a[k] = b[k]) (h3 : ∀ k (h1 : k < a.length) (h2 : k < b.length),F ≤ k → a[k] ≠ b[k]) : Con Tryz.prog 54 [] [al a,al b] [] (.tu [.c (jn F),.c (jn (huntS F 0 M 2 : Nat))]) := by
 have c1 := I_StartHunt a b M ha hb hL (h0 0 (by omega) (by omega) (by omega)) (h3 M (by omega) (by omega) (by omega))
 refine Con.of Tryz.func54 J Tryz.ntmps54 J (fun E => ?_)
 refine Wz [4,72,2,39] ?_;refine M1 (Zk J J (c1) J J J) J J ?_;refine Wz [88,42,42,18,40,56,14,60,29] ?_;refine Xi (fun m__ st => ∃ (lo : Nat) (hi : Nat) (s : Nat),hi - lo = m__ ∧ ((lo < F ∧ F ≤ hi ∧ hi ≤ M ∧ s + (hi - lo) ≤ M + 2) ∧ huntS F lo hi s = huntS F 0 M 2) ∧ st = (⟨_,[(0,L a),(1,L b),(6,.o (.c (.ptr 0 0)))],[.box [jn lo,jn hi,jn s]]⟩ : St)) _ ⟨_,⟨0,M,2,J,⟨by omega,J⟩,J⟩,X7 [0] (by kernel_rfl)⟩ ?_
 rintro m_A _ ⟨lo,hi,s,hk_A,hp_A,rfl⟩
 obtain ⟨⟨q1,q2,q3,q4⟩,q5⟩ := hp_A
 by_cases h4 : hi - lo < 2
 ·have c2 := I_ProbeNo lo hi s (by omega) h4 (by omega)
  have f1 : decide ((0 : Int) ≤ -1) = false := decide_eq_false (by omega)
  rw [← q5,huntS_end h4,show F = hi by omega]
  refine Wz [20,15] ?_;refine zx (Qj J J (c2) J) J ?_;refine Wz [95,60,32,20] ?_;refine Xh [[],[0],[],[2],[0,1],(u9 5)] [[],[26],[],[28],[26,27],[4,26,27,28,29]] [[28,29],[28,29],[4,26,27],[4,26,27],[28,29],[]] J ?_;refine Wz [33,33,109,109,31,1,67] ?_
  exact E_tmp2 J J J (X6 [] (by decide) J J J)
 obtain ⟨m,hm⟩ : ∃ m,(lo + hi) / 2 = m := ⟨_,rfl⟩
 have c2 := I_Probe lo hi s (by omega) (by omega)
 rw [hm] at c2
 have f1 : decide ((0 : Int) ≤ (m : Int)) = true := decide_eq_true (by omega)
 have c3 := Xt a b m (by omega) (by omega)
 have es : (s : Int) + 1 = ((s + 1 : Nat) : Int) := by omega
 by_cases h5 : m < F
 ·rw [decide_eq_true (h0 m (by omega) (by omega) h5)] at c3
  have c4 := I_Narrow lo hi m s true (by omega) (by omega) (by omega) hm m hi rfl
  rw [es] at c4
  refine Wz [20,15] ?_;refine zx (Qj J J (c2) J) J ?_;refine Wz [95,9,68,13] ?_;refine Xh u8_38 u8_39 u8_40 J ?_;refine Wz [100,3,3,100] ?_;refine DR.s (Qj J J (c2) J) J J ?_;refine DR.s (Qj J J (c3) J) J J ?_;refine DR.s (Zk J J (c4) J J J) J J ?_;refine Wz [31,40,74,90] ?_
  refine ⟨_,(by omega),_,⟨m,hi,s + 1,J,⟨by omega,by rw [← q5,huntS_up h4 (by omega),hm]⟩,J⟩,X7 [0] (by kernel_rfl)⟩
 ·rw [decide_eq_false (h3 m (by omega) (by omega) (by omega))] at c3
  have c4 := I_Narrow lo hi m s false (by omega) (by omega) (by omega) hm lo m rfl
  rw [es] at c4
  refine Wz [20,15] ?_;refine zx (Qj J J (c2) J) J ?_;refine Wz [95,9,68,13] ?_;refine Xh u8_38 u8_39 u8_40 J ?_;refine Wz [100,3,3,100] ?_;refine DR.s (Qj J J (c2) J) J J ?_;refine DR.s (Qj J J (c3) J) J J ?_;refine DR.s (Zk J J (c4) J J J) J J ?_;refine Wz [31,40,74,90] ?_
  refine ⟨_,(by omega),_,⟨lo,m,s + 1,J,⟨by omega,by rw [← q5,huntS_dn h4 (by omega),hm]⟩,J⟩,X7 [0] (by kernel_rfl)⟩
end
end Go.Proofs.YtpmacgnmlmmojaaGreatDoor
