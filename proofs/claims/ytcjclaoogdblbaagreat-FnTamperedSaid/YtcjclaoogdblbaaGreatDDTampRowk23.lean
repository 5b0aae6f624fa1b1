/-
  Parts of the proof (rules, data, and what functions of the program and of the reference return), among them: The kit's readings of the laws' structs as Lean data; The kit's reading of a list of bytes as Lean data.
  Conditions: those that each theorem names.
-/
import Derived.Test.YtcjclaoogdblbaaGreatDDTampRowk10
import Derived.Test.YtcjclaoogdblbaaGreatDDTampRowk21
import Derived.Test.YtcjclaoogdblbaaGreatDDTampRowk22
set_option linter.unusedSimpArgs false
set_option linter.unusedVariables false
set_option maxRecDepth 20000
set_option maxHeartbeats 8000000
namespace Go.Proofs.YtcjclaoogdblbaaGreat
section
open Go.RowKit

def rlD (b : List UInt8) (c : Cu) : TLevel × Cu := levelC b c
def rnD (b : List UInt8) (c : Cu) : Int × Cu := belowC b 4 (rlD b c).2
def rsD (b : List UInt8) (c : Cu) : Int × Cu := belowC b 65536 (rnD b c).2
def reD (b : List UInt8) (c : Cu) : Int × Cu := pickC_ b [1,2,5,16] (rsD b c).2
def rN (b : List UInt8) (c : Cu) : Nat := (rnD b c).1.toNat + 1
def rE (b : List UInt8) (c : Cu) : Nat := (reD b c).1.toNat
def rRows (b : List UInt8) (c : Cu) : List (List Int) × Cu := drawRows b (rN b c) 6 (reD b c).2
theorem reD_rng (b : List UInt8) (c : Cu) : 1 ≤ (reD b c).1 ∧ (reD b c).1 ≤ 16 := by
 refine pickC_all (q := fun x => 1 ≤ x ∧ x ≤ 16) (by simp) fun x hx => ?_
 simp only [List.mem_cons,List.not_mem_nil,or_false] at hx
 omega
theorem rl_ok {b : List UInt8} {c : Cu} (hc : c.i ≤ b.length) : levelOk (rlD b c).1 = true ∧ Enc.gd (rlD b c).1 ∧ (rlD b c).1.Rows.length ≤ 1001 ∧ (rlD b c).2.i ≤ b.length := by
 have r := Yj (b := b) (n := 5) (c := c) (by omega)
 have hl := lv_ok (belowC b 5 c).1.toNat (by omega)
 have h2 := splitG_ok hl.2
 exact ⟨hl.1,h2.1,h2.2,Yi hc⟩
theorem rRows_ok (b : List UInt8) (c : Cu) : (rRows b c).1.length ≤ 24 ∧ ∀ r ∈ (rRows b c).1,r.length = rN b c ∧ ∀ x ∈ r,0 ≤ x ∧ x ≤ 15 := by
 have h1 := Yj (b := b) (n := 6) (c := (reD b c).2) (by omega)
 have h2 := rowsC_len (b := b) (n := rN b c) (c := (belowC b 6 (reD b c).2).2) (belowC b 6 (reD b c).2).1.toNat
 refine ⟨?_,fun r hr => rowsC_all _ r hr⟩
 show (rowsC b (rN b c) _ _).1.length ≤ 24
 omega
theorem repl_rd {b : List UInt8} {c : Cu} (hc : c.i ≤ b.length) : RD (rlD b c).1 (rN b c) (rsD b c).1 (rE b c) (rRows b c).1 := by
 have hl := rl_ok hc
 have hn := Yj (b := b) (n := 4) (c := (rlD b c).2) (by omega)
 have hs := Yj (b := b) (n := 65536) (c := (rnD b c).2) (by omega)
 have he := reD_rng b c
 have hr := rRows_ok b c
 refine ⟨hl.1,hl.2.1,by omega,by unfold rN rnD; omega,Za.2 (by unfold rsD; omega),by unfold rE; omega,by omega,fun r hm => ?_⟩
 obtain ⟨h1,h2⟩ := hr.2 r hm
 have h3 : inOk r = true := List.all_eq_true.2 fun x hx => Za.2 (h2 x hx)
 simp only [rowOk,h1,h3,Bool.and_true,decide_eq_true_eq,Bool.and_eq_true,and_true]
noncomputable def replD (b : List UInt8) (c : Cu) : TReplay := replK (rlD b c).1 (rN b c) (rsD b c).1 (rE b c) (rRows b c).1 (rRows b c).1.length
def dr3A : List (List Nat) := [[],[],[],[2],[],[],[2,3,4,5],[0,1,2,3,4,5,6],[0,1,2,3,4,5,6,7],[0,1,2,3,4,5,6,7,8],[0,1,2,3,4,5,6,7,8],[],[0,1,2,3,4,5,6,7,8,9,11],[0,1,2,3,4,5,6,7,8,9,10,11,12]]
def dr3M : List (List Nat) := [[13,14,15,16,17,18,19,20,12,21,22,5,6],[13,14,15,16,17,18,19,20,12,21,22,5,6],[13,14,15,16,17,18,19,20,12,21,22,5,6],[13,14,15,16,17,18,19,20,12,21,22,5,6],[13,14,15,16,17,18,19,20,12,21,22,5,6],[13,14,15,16,17,18,19,20,12,21,22,5,6],[13,14,15,16,17,18,19,20,12,21,22,5,6],[13,14,15,16,17,18,19,20,12,21,22,5,6],[13,14,15,16,17,18,19,20,12,21,22,5,6],[13,14,15,16,17,18,19,20,12,21,22,5,6],[13,14,15,16,17,18,19,20,12,21,22,5,6],[13,14,15,16,17,18,19,20,12,21,22,5,6],[13,14,15,16,17,18,19,20,12,21,22,5,6],[13,14,15,16,17,18,19,20,12,21,22,5,6]]
def dr4A : List (List Nat) := [[],[],[],[1,2],[0,1,2,3],[0,1,2,3,4],[0,1,2,3,4,5],[0,1,2,3,4,5],[0,1,2,3,4,5,6]]
def dr4M : List (List Nat) := [[24,25,26,27,28,23,29,30],[24,25,26,27,28,23,29,30],[24,25,26,27,28,23,29,30],[24,25,26,27,28,23,29,30],[24,25,26,27,28,23,29,30],[24,25,26,27,28,23,29,30],[24,25,26,27,28,23,29,30],[24,25,26,27,28,23,29,30],[24,25,26,27,28,23,29,30]]
theorem S_l07Replay (b : List UInt8) (c : Cu) (hb : b.length ≤ 1048576) (hc : c.i ≤ b.length) : Con Tryz.prog 12 [cub b c,.gh 0 (.c (.ptr 0 0))] [.c (.ptr 0 0)] [cub b (rRows b c).2,.gh 0 (.c (.ptr 0 0)),.row 1 (els (replD b c).Level.Rows),.row 1 (els (replD b c).Rows),.row 1 (els (replD b c).Keys)] (.o (.ag [.ref 2,jn (replD b c).Players,jn (replD b c).Seed,jn (replD b c).Every,.ref 3,.ref 4])) := by
 have R := repl_rd hc
 have hl := rl_ok hc
 have hcn : (rnD b c).2.i ≤ b.length := Yi hl.2.2.2
 have hcs : (rsD b c).2.i ≤ b.length := Yi hcn
 have hce : (reD b c).2.i ≤ b.length := pickC_ok hcs
 have r3 := Yj (b := b) (n := 4) (c := (rlD b c).2) (by omega)
 have r5 := reD_rng b c
 have hro := rRows_ok b c
 have k2 := S_l02Level b c hb hc
 have k3 := X7 b 4 (rlD b c).2 hb hl.2.2.2 (by omega)
 have k4 := X7 b 65536 (rnD b c).2 hb hcn (by omega)
 have k5 := S_l01PickInt b [1,2,5,16] (rsD b c).2 hb hcs (by simp) (by simp)
 have k6 := S_l02Rows b (rN b c) 6 (reD b c).2 hb hce (by have := R.hn; omega) (by omega)
 have hn0 := R.hn
 have hs0 := Za.1 R.hs
 have he0 := R.he
 have gr : Enc.gd (rRows b c).1 := gd_rows (n := rN b c) (by omega) (by omega) hro.2
 have hr0 := R.rep gr (k := 0) (Nat.zero_le _)
 have k7 := S_NewReplay (rlD b c).1 (rN b c) (rsD b c).1 (rE b c) R.gl R.ll ⟨by omega,by omega⟩ ⟨by omega,by omega⟩ ⟨by omega,by omega⟩
 have hrep0 : (⟨(rlD b c).1,(rN b c : Int),(rsD b c).1,(rE b c : Int),[],[]⟩ : TReplay) = replK (rlD b c).1 (rN b c) (rsD b c).1 (rE b c) (rRows b c).1 0 := by rw [replK,Nat.zero_div]; rfl
 have hok0 := R.ok (Nat.zero_le _)
 rw [show newReplay (rlD b c).1 (rN b c) (rsD b c).1 (rE b c) = replK (rlD b c).1 (rN b c) (rsD b c).1 (rE b c) (rRows b c).1 0 by rw [newReplay,hrep0,hok0]; rfl,hrep0,hok0] at k7
 have k8 := S_AddRows _ (rRows b c).1 gr hr0.1 (fun r hr => by rw [(hro.2 r hr).1]; omega) hr0.2
 rw [R.adds] at k8
 change Con _ _ _ _ [cub b (rlD b c).2,.gh 0 (.c (.ptr 0 0)),.row 1 (els (rlD b c).1.Rows)] _ at k2
 change Con _ _ _ _ [cub b (rnD b c).2,.gh 0 (.c (.ptr 0 0))] (I (rnD b c).1) at k3
 change Con _ _ _ _ [cub b (rsD b c).2,.gh 0 (.c (.ptr 0 0))] (I (rsD b c).1) at k4
 change Con _ _ _ _ [cub b (reD b c).2,.gh 0 (.c (.ptr 0 0))] (I (reD b c).1) at k5
 change Con _ _ _ _ [cub b (rRows b c).2,.gh 0 (.c (.ptr 0 0))] (.o (.c (.rd [] (sl (rRows b c).1)))) at k6
 change Con _ _ _ _ (ownO (Enc.e (replD b c))) (.tu [.ag (ownV 0 (Enc.e (replD b c))),.c (bv true)]) at k8
 have hnn : 1 + (rnD b c).1 = ((rN b c : Nat) : Int) := by unfold rN rnD; omega
 have hee : (reD b c).1 = ((rE b c : Nat) : Int) := by unfold rE; omega
 rw [hee] at k5
 clear R hro hl hcn hcs hce r3 r5 gr hr0 hrep0 hok0
 generalize replD b c = r at k8 ⊢
 generalize replK (rlD b c).1 (rN b c) (rsD b c).1 (rE b c) (rRows b c).1 0 = r0 at k7 k8
 generalize rN b c = n at k6 k7 hnn hn0
 generalize rE b c = e at k5 k7 he0 hee
 generalize rRows b c = p5 at k6 k8 ⊢
 generalize reD b c = p4 at k5 k6 hee
 generalize rsD b c = p3 at k4 k5 k7 hs0
 generalize rnD b c = p2 at k3 k4 hnn
 generalize rlD b c = p1 at k2 k3 k7
 obtain ⟨l,c1⟩ := p1
 obtain ⟨x,c2⟩ := p2
 obtain ⟨seed,c3⟩ := p3
 obtain ⟨x4,c4⟩ := p4
 obtain ⟨rows,c5⟩ := p5
 simp only at k2 k3 k4 k5 k6 k7 k8 hnn hs0 hee ⊢
 refine Con.of Tryz.func12 J Tryz.ntmps12 J (fun E => ?_)
 refine zy (Un (Gh J J) J (zz (zy (z0 J ?_))));refine Xz (lo := [_]) (gs := [(0,.c (.ptr 0 0))]) (lo' := [_]) (new := [_]) [0] [(0,0,.ptr 0 0)] (k2) J J J J J J J J J J J J J J J J J ?_;refine Un (Gh J J) J ?_;refine G1 J J (zz (zy (z0 J ?_)));refine AL.weak (st' := (⟨_,[(0,.o (.c (.ptr 0 0))),(2,.o (.c (.ptr 2 0))),(3,.o (.c (.ptr 4 0))),(9,.o (.c (.ptr 0 0)))],[cub b c1,.gh 0 (.c (.ptr 0 0)),.box [nilV,jn 0,jn 0,jn 0,nilV,nilV],.row 1 (els l.Rows),.box [.ref 3]]⟩ : St)) (Uf [0,1,2,3,4]) ?_;refine Xz (lo := [_]) (gs := [(0,.c (.ptr 0 0))]) (lo' := [_]) (new := []) [0] [(0,0,.ptr 0 0)] (k3) J J J J J J J J J J J J J J J J J ?_;refine Uh J (z1 J (zz (Qd ?_)))
 refine AWP.pre (st' := (⟨_,[(0,.o (.c (.ptr 0 0))),(2,.o (.c (.ptr 2 0))),(3,.o (.c (.ptr 4 0))),(4,I n)],[cub b c2,.gh 0 (.c (.ptr 0 0)),.box [nilV,jn 0,jn 0,jn 0,nilV,nilV],.row 1 (els l.Rows),.box [.ref 3]]⟩ : St)) ?_ (V6 [0,1,2,3,4] J (.c J (.c J (.c J (.cons (Xv hnn) (.nil))))))
 refine A_seqW ⟨32,[(0,.o (.c (.ptr 0 0))),(2,.o (.c (.ptr 2 0))),(4,I n),(5,.o (.c (.ptr 3 0)))],[cub b c4,.gh 0 (.c (.ptr 0 0)),.box [nilV,jn 0,jn 0,jn 0,nilV,nilV],.box [.ref 4,jn r0.Players,jn r0.Seed,jn r0.Every,.ref 5,.ref 6],.row 1 (els r0.Level.Rows),.row 1 (els r0.Rows),.row 1 (els r0.Keys)]⟩ ?_ ?_
 ·
  refine A_drawn (f := 14) J J ?_
  refine DAL.have_ 0 (ms 14 16383) ⟨32,[(0,.o (.c (.ptr 0 0))),(2,.o (.c (.ptr 2 0))),(3,.o (.c (.ptr 4 0))),(4,I n),(5,.o (.c (.ptr 9 0)))],[cub b c4,.gh 0 (.c (.ptr 0 0)),.box [nilV,jn 0,jn 0,jn 0,nilV,nilV],.row 1 (els l.Rows),.box [.ref 3],.gone,.row 1 (els r0.Level.Rows),.row 1 (els r0.Rows),.row 1 (els r0.Keys),.box [.ref 6,jn r0.Players,jn r0.Seed,jn r0.Every,.ref 7,.ref 8]]⟩ ?_ (fun hd0 => ?_)
  ·
   refine DAL.nil (by kernel_rfl) (Q0 ?_)
   exact Uf [0,1,2,9,6,7,8]
  refine DAL.have_ 1 (ms 14 8191) ⟨32,[(0,.o (.c (.ptr 0 0))),(2,.o (.c (.ptr 2 0))),(3,.o (.c (.ptr 4 0))),(4,I n),(13,.o (.ag [.ref 3])),(14,I n),(15,.o (.c (.ptr 0 0))),(16,I seed),(17,.o (.c (.ptr 0 0))),(19,I e),(20,.tu [.ag [.ref 6,jn r0.Players,jn r0.Seed,jn r0.Every,.ref 7,.ref 8],.c (bv true)]),(12,.tu [.ag [.ref 6,jn r0.Players,jn r0.Seed,jn r0.Every,.ref 7,.ref 8],.c (bv true)]),(21,.o (.ag [.ref 6,jn r0.Players,jn r0.Seed,jn r0.Every,.ref 7,.ref 8])),(22,B true),(5,.o (.c (.ptr 9 0)))],[cub b c4,.gh 0 (.c (.ptr 0 0)),.box [nilV,jn 0,jn 0,jn 0,nilV,nilV],.row 1 (els l.Rows),.box [.ref 3],.gone,.row 1 (els r0.Level.Rows),.row 1 (els r0.Rows),.row 1 (els r0.Keys),.box [.ref 6,jn r0.Players,jn r0.Seed,jn r0.Every,.ref 7,.ref 8]]⟩ ?_ (fun hd1 => ?_)
  ·
   refine x9 13 J (z1 J (zz ?_))
   exact yb (Uf [0,1,2,3,4,5,6,7,8,9]) hd0
  refine DAL.have_ 2 (ms 14 4095) ⟨32,[(0,.o (.c (.ptr 0 0))),(2,.o (.c (.ptr 2 0))),(3,.o (.c (.ptr 4 0))),(4,I n),(13,.o (.ag [.ref 3])),(14,I n),(15,.o (.c (.ptr 0 0))),(16,I seed),(17,.o (.c (.ptr 0 0))),(19,I e),(20,.tu [.ag [.ref 6,jn r0.Players,jn r0.Seed,jn r0.Every,.ref 7,.ref 8],.c (bv true)]),(12,.tu [.ag [.ref 6,jn r0.Players,jn r0.Seed,jn r0.Every,.ref 7,.ref 8],.c (bv true)]),(21,.o (.ag [.ref 6,jn r0.Players,jn r0.Seed,jn r0.Every,.ref 7,.ref 8])),(22,B true),(5,.o (.c (.ptr 9 0)))],[cub b c4,.gh 0 (.c (.ptr 0 0)),.box [nilV,jn 0,jn 0,jn 0,nilV,nilV],.row 1 (els l.Rows),.box [.ref 3],.gone,.row 1 (els r0.Level.Rows),.row 1 (els r0.Rows),.row 1 (els r0.Keys),.box [nilV,jn 0,jn 0,jn 0,nilV,nilV]]⟩ ?_ (fun hd2 => ?_)
  ·
   refine x9 12 J ?_;refine G1 J J (zz ?_)
   exact yb (Uf [0,1,2,3,4,5,6,7,8,9]) hd1
  refine DAL.have_ 3 (ms 14 2047) ⟨32,[(0,.o (.c (.ptr 0 0))),(2,.o (.c (.ptr 2 0))),(3,.o (.c (.ptr 4 0))),(4,I n),(13,.o (.ag [.ref 3])),(14,I n),(15,.o (.c (.ptr 0 0))),(16,I seed),(17,.o (.c (.ptr 0 0))),(19,I e),(20,.tu [.ag [.ref 6,jn r0.Players,jn r0.Seed,jn r0.Every,.ref 7,.ref 8],.c (bv true)]),(12,.tu [.ag [.ref 6,jn r0.Players,jn r0.Seed,jn r0.Every,.ref 7,.ref 8],.c (bv true)]),(21,.o (.ag [.ref 6,jn r0.Players,jn r0.Seed,jn r0.Every,.ref 7,.ref 8])),(22,B true)],[cub b c4,.gh 0 (.c (.ptr 0 0)),.box [nilV,jn 0,jn 0,jn 0,nilV,nilV],.row 1 (els l.Rows),.box [.ref 3],.gone,.row 1 (els r0.Level.Rows),.row 1 (els r0.Rows),.row 1 (els r0.Keys)]⟩ ?_ (fun hd3 => ?_)
  ·
   refine x9 11 J (Un (Gh J J) J (zz ?_))
   exact yb (Uf [0,1,2,3,4,5,6,7,8,9]) hd2
  refine DAL.have_ 6 (ms 14 2175) ⟨32,[(0,.o (.c (.ptr 0 0))),(2,.o (.c (.ptr 2 0))),(3,.o (.c (.ptr 4 0))),(4,I n),(13,.o (.ag [.ref 3])),(14,I n),(15,.o (.c (.ptr 0 0))),(16,I seed),(17,.o (.c (.ptr 0 0))),(19,I e),(5,.o (.c (.ptr 6 0)))],[cub b c4,.gh 0 (.c (.ptr 0 0)),.box [nilV,jn 0,jn 0,jn 0,nilV,nilV],.row 1 (els l.Rows),.box [.ref 3],.gone,.box [nilV,jn 0,jn 0,jn 0,nilV,nilV]]⟩ ?_ (fun hd4 => ?_)
  ·
   refine x9 7 J ?_;refine Un (Z3 J J (k7) J J J) J ?_;refine zz ?_;refine DAL.mv dr3A [] dr3M 8 _ 12 (by kernel_rfl) J J J J ?_;refine DAL.ext dr3A [] dr3M 9 _ 21 (by kernel_rfl) J J J J J J ?_;refine DAL.ext dr3A [] dr3M 10 _ 22 (by kernel_rfl) J J J J J J ?_
   exact yb (Uf [0,1,2,3,4,5,7,8,9,6]) hd2
  refine DAL.have_ 7 (ms 14 2174) ⟨32,[(0,.o (.c (.ptr 0 0))),(2,.o (.c (.ptr 2 0))),(3,.o (.c (.ptr 4 0))),(4,I n),(14,I n),(15,.o (.c (.ptr 0 0))),(16,I seed),(17,.o (.c (.ptr 0 0))),(19,I e),(5,.o (.c (.ptr 6 0)))],[cub b c4,.gh 0 (.c (.ptr 0 0)),.box [nilV,jn 0,jn 0,jn 0,nilV,nilV],.row 1 (els l.Rows),.box [.ref 3],.gone,.box [nilV,jn 0,jn 0,jn 0,nilV,nilV]]⟩ ?_ (fun hd5 => ?_)
  ·
   refine x9 0 J (Gw J J (zz ?_))
   exact yb (Uf [0,1,2,3,4,5,6]) hd4
  refine DAL.have_ 7 (ms 14 2111) ⟨32,[(0,.o (.c (.ptr 0 0))),(2,.o (.c (.ptr 2 0))),(3,.o (.c (.ptr 4 0))),(4,I n),(13,.o (.ag [.ref 3])),(14,I n),(15,.o (.c (.ptr 0 0))),(16,I seed),(17,.o (.c (.ptr 0 0))),(18,.o (.c (.sb 5 4 1))),(5,.o (.c (.ptr 6 0)))],[cub b c3,.gh 0 (.c (.ptr 0 0)),.box [nilV,jn 0,jn 0,jn 0,nilV,nilV],.row 1 (els l.Rows),.box [.ref 3],.box [jn 1,jn 2,jn 5,jn 16],.box [nilV,jn 0,jn 0,jn 0,nilV,nilV]]⟩ ?_ (fun hd6 => ?_)
  ·
   refine x9 6 J ?_;refine AL.weak (Wk.sbrow (q := 5) J J (Nat.le_of_ble_eq_true J)) ?_;refine AL.freeze (p := 5) J ?_;refine Xz (lo := [_]) (gs := [(0,.c (.ptr 0 0))]) (lo' := [_]) (new := []) [0] [(0,0,.ptr 0 0)] (k5) J J J J J J J J J J J J J J J J J ?_;refine zz ?_
   exact yb (Uf [0,1,2,3,4,5,6]) hd4
  refine DAL.have_ 7 (ms 14 127) ⟨32,[(0,.o (.c (.ptr 0 0))),(2,.o (.c (.ptr 2 0))),(3,.o (.c (.ptr 4 0))),(4,I n),(13,.o (.ag [.ref 3])),(14,I n),(15,.o (.c (.ptr 0 0))),(16,I seed),(17,.o (.c (.ptr 0 0))),(19,I e)],[cub b c4,.gh 0 (.c (.ptr 0 0)),.box [nilV,jn 0,jn 0,jn 0,nilV,nilV],.row 1 (els l.Rows),.box [.ref 3],.gone]⟩ ?_ (fun hd7 => ?_)
  ·
   refine DAL.two 7 11 (by kernel_rfl) J J ?_ ?_
   ·
    refine Un (Z3 J J (k7) J J J) J ?_;refine zz ?_;refine DAL.mv dr3A [] dr3M 8 _ 12 (by kernel_rfl) J J J J ?_;refine DAL.ext dr3A [] dr3M 9 _ 21 (by kernel_rfl) J J J J J J ?_;refine DAL.ext dr3A [] dr3M 10 _ 22 (by kernel_rfl) J J J J J J ?_
    exact yb (Uf [0,1,2,3,4,5,6,7,8]) hd3
   ·
    refine Un (Gh J J) J (zz ?_)
    exact yb (Uf [0,1,2,3,4,5,6]) hd4
  refine DAL.have_ 8 (ms 14 2110) ⟨32,[(0,.o (.c (.ptr 0 0))),(2,.o (.c (.ptr 2 0))),(3,.o (.c (.ptr 4 0))),(4,I n),(14,I n),(15,.o (.c (.ptr 0 0))),(16,I seed),(17,.o (.c (.ptr 0 0))),(18,.o (.c (.sb 5 4 1))),(5,.o (.c (.ptr 6 0)))],[cub b c3,.gh 0 (.c (.ptr 0 0)),.box [nilV,jn 0,jn 0,jn 0,nilV,nilV],.row 1 (els l.Rows),.box [.ref 3],.box [jn 1,jn 2,jn 5,jn 16],.box [nilV,jn 0,jn 0,jn 0,nilV,nilV]]⟩ ?_ (fun hd8 => ?_)
  ·
   refine DAL.two 0 6 (by kernel_rfl) J J ?_ ?_
   ·
    refine Gw J J (zz ?_)
    exact yb (Uf [0,1,2,3,4,5,6]) hd6
   ·
    refine AL.weak (Wk.sbrow (q := 5) J J (Nat.le_of_ble_eq_true J)) ?_;refine AL.freeze (p := 5) J ?_;refine Xz (lo := [_]) (gs := [(0,.c (.ptr 0 0))]) (lo' := [_]) (new := []) [0] [(0,0,.ptr 0 0)] (k5) J J J J J J J J J J J J J J J J J ?_;refine zz ?_
    exact yb (Uf [0,1,2,3,4,5,6]) hd5
  refine DAL.have_ 8 (ms 14 2103) ⟨32,[(0,.o (.c (.ptr 0 0))),(2,.o (.c (.ptr 2 0))),(3,.o (.c (.ptr 4 0))),(4,I n),(13,.o (.ag [.ref 3])),(14,I n),(15,.o (.c (.ptr 0 0))),(17,.o (.c (.ptr 0 0))),(18,.o (.c (.sb 5 4 1))),(5,.o (.c (.ptr 6 0)))],[cub b c2,.gh 0 (.c (.ptr 0 0)),.box [nilV,jn 0,jn 0,jn 0,nilV,nilV],.row 1 (els l.Rows),.box [.ref 3],.box [jn 1,jn 2,jn 5,jn 16],.box [nilV,jn 0,jn 0,jn 0,nilV,nilV]]⟩ ?_ (fun hd9 => ?_)
  ·
   refine x9 3 J ?_;refine Xz (lo := [_]) (gs := [(0,.c (.ptr 0 0))]) (lo' := [_]) (new := []) [0] [(0,0,.ptr 0 0)] (k4) J J J J J J J J J J J J J J J J J ?_;refine zz ?_
   exact yb (Uf [0,1,2,3,4,5,6]) hd6
  refine DAL.have_ 8 (ms 14 2079) ⟨32,[(0,.o (.c (.ptr 0 0))),(2,.o (.c (.ptr 2 0))),(3,.o (.c (.ptr 4 0))),(4,I n),(13,.o (.ag [.ref 3])),(14,I n),(15,.o (.c (.ptr 0 0))),(16,I seed),(17,.o (.c (.ptr 0 0))),(5,.o (.c (.ptr 5 0)))],[cub b c3,.gh 0 (.c (.ptr 0 0)),.box [nilV,jn 0,jn 0,jn 0,nilV,nilV],.row 1 (els l.Rows),.box [.ref 3],.box [nilV,jn 0,jn 0,jn 0,nilV,nilV]]⟩ ?_ (fun hd10 => ?_)
  ·
   refine x9 5 J (Un (Uo J J) J (zz ?_))
   exact yb (Uf [0,1,2,3,4,6,5]) hd6
  refine DAL.have_ 8 (ms 14 126) ⟨32,[(0,.o (.c (.ptr 0 0))),(2,.o (.c (.ptr 2 0))),(3,.o (.c (.ptr 4 0))),(4,I n),(14,I n),(15,.o (.c (.ptr 0 0))),(16,I seed),(17,.o (.c (.ptr 0 0))),(19,I e)],[cub b c4,.gh 0 (.c (.ptr 0 0)),.box [nilV,jn 0,jn 0,jn 0,nilV,nilV],.row 1 (els l.Rows),.box [.ref 3],.gone]⟩ ?_ (fun hd11 => ?_)
  ·
   refine DAL.two 0 11 (by kernel_rfl) J J ?_ ?_
   ·
    refine Gw J J (zz ?_)
    exact yb (Uf [0,1,2,3,4,5]) hd7
   ·
    refine Un (Gh J J) J (zz ?_)
    exact yb (Uf [0,1,2,3,4,5,6]) hd5
  refine DAL.have_ 8 (ms 14 63) ⟨32,[(0,.o (.c (.ptr 0 0))),(2,.o (.c (.ptr 2 0))),(3,.o (.c (.ptr 4 0))),(4,I n),(13,.o (.ag [.ref 3])),(14,I n),(15,.o (.c (.ptr 0 0))),(16,I seed),(17,.o (.c (.ptr 0 0))),(18,.o (.c (.sb 5 4 1)))],[cub b c3,.gh 0 (.c (.ptr 0 0)),.box [nilV,jn 0,jn 0,jn 0,nilV,nilV],.row 1 (els l.Rows),.box [.ref 3],.box [jn 1,jn 2,jn 5,jn 16]]⟩ ?_ (fun hd12 => ?_)
  ·
   refine DAL.two 6 11 (by kernel_rfl) J J ?_ ?_
   ·
    refine AL.weak (Wk.sbrow (q := 5) J J (Nat.le_of_ble_eq_true J)) ?_;refine AL.freeze (p := 5) J ?_;refine Xz (lo := [_]) (gs := [(0,.c (.ptr 0 0))]) (lo' := [_]) (new := []) [0] [(0,0,.ptr 0 0)] (k5) J J J J J J J J J J J J J J J J J ?_;refine zz ?_
    exact yb (Uf [0,1,2,3,4,5]) hd7
   ·
    refine Un (Gh J J) J (zz ?_)
    exact yb (Uf [0,1,2,3,4,5,6]) hd6
  refine DAL.have_ 9 (ms 14 2102) ⟨32,[(0,.o (.c (.ptr 0 0))),(2,.o (.c (.ptr 2 0))),(3,.o (.c (.ptr 4 0))),(4,I n),(14,I n),(15,.o (.c (.ptr 0 0))),(17,.o (.c (.ptr 0 0))),(18,.o (.c (.sb 5 4 1))),(5,.o (.c (.ptr 6 0)))],[cub b c2,.gh 0 (.c (.ptr 0 0)),.box [nilV,jn 0,jn 0,jn 0,nilV,nilV],.row 1 (els l.Rows),.box [.ref 3],.box [jn 1,jn 2,jn 5,jn 16],.box [nilV,jn 0,jn 0,jn 0,nilV,nilV]]⟩ ?_ (fun hd13 => ?_)
  ·
   refine DAL.two 0 3 (by kernel_rfl) J J ?_ ?_
   ·
    refine Gw J J (zz ?_)
    exact yb (Uf [0,1,2,3,4,5,6]) hd9
   ·
    refine Xz (lo := [_]) (gs := [(0,.c (.ptr 0 0))]) (lo' := [_]) (new := []) [0] [(0,0,.ptr 0 0)] (k4) J J J J J J J J J J J J J J J J J ?_;refine zz ?_
    exact yb (Uf [0,1,2,3,4,5,6]) hd8
  refine DAL.have_ 9 (ms 14 2078) ⟨32,[(0,.o (.c (.ptr 0 0))),(2,.o (.c (.ptr 2 0))),(3,.o (.c (.ptr 4 0))),(4,I n),(14,I n),(15,.o (.c (.ptr 0 0))),(16,I seed),(17,.o (.c (.ptr 0 0))),(5,.o (.c (.ptr 5 0)))],[cub b c3,.gh 0 (.c (.ptr 0 0)),.box [nilV,jn 0,jn 0,jn 0,nilV,nilV],.row 1 (els l.Rows),.box [.ref 3],.box [nilV,jn 0,jn 0,jn 0,nilV,nilV]]⟩ ?_ (fun hd14 => ?_)
  ·
   refine DAL.two 0 5 (by kernel_rfl) J J ?_ ?_
   ·
    refine Gw J J (zz ?_)
    exact yb (Uf [0,1,2,3,4,5]) hd10
   ·
    refine Un (Uo J J) J (zz ?_)
    exact yb (Uf [0,1,2,3,4,6,5]) hd8
  refine DAL.have_ 9 (ms 14 2071) ⟨32,[(0,.o (.c (.ptr 0 0))),(2,.o (.c (.ptr 2 0))),(3,.o (.c (.ptr 4 0))),(4,I n),(13,.o (.ag [.ref 3])),(14,I n),(15,.o (.c (.ptr 0 0))),(17,.o (.c (.ptr 0 0))),(5,.o (.c (.ptr 5 0)))],[cub b c2,.gh 0 (.c (.ptr 0 0)),.box [nilV,jn 0,jn 0,jn 0,nilV,nilV],.row 1 (els l.Rows),.box [.ref 3],.box [nilV,jn 0,jn 0,jn 0,nilV,nilV]]⟩ ?_ (fun hd15 => ?_)
  ·
   refine DAL.two 3 5 (by kernel_rfl) J J ?_ ?_
   ·
    refine Xz (lo := [_]) (gs := [(0,.c (.ptr 0 0))]) (lo' := [_]) (new := []) [0] [(0,0,.ptr 0 0)] (k4) J J J J J J J J J J J J J J J J J ?_;refine zz ?_
    exact yb (Uf [0,1,2,3,4,5]) hd10
   ·
    refine Un (Uo J J) J (zz ?_)
    exact yb (Uf [0,1,2,3,4,6,5]) hd9
  refine DAL.have_ 9 (ms 14 62) ⟨32,[(0,.o (.c (.ptr 0 0))),(2,.o (.c (.ptr 2 0))),(3,.o (.c (.ptr 4 0))),(4,I n),(14,I n),(15,.o (.c (.ptr 0 0))),(16,I seed),(17,.o (.c (.ptr 0 0))),(18,.o (.c (.sb 5 4 1)))],[cub b c3,.gh 0 (.c (.ptr 0 0)),.box [nilV,jn 0,jn 0,jn 0,nilV,nilV],.row 1 (els l.Rows),.box [.ref 3],.box [jn 1,jn 2,jn 5,jn 16]]⟩ ?_ (fun hd16 => ?_)
  ·
   refine DAL.three 0 6 11 (by kernel_rfl) J J J ?_ ?_ ?_
   ·
    refine Gw J J (zz ?_)
    exact yb (Uf [0,1,2,3,4,5]) hd12
   ·
    refine AL.weak (Wk.sbrow (q := 5) J J (Nat.le_of_ble_eq_true J)) ?_;refine AL.freeze (p := 5) J ?_;refine Xz (lo := [_]) (gs := [(0,.c (.ptr 0 0))]) (lo' := [_]) (new := []) [0] [(0,0,.ptr 0 0)] (k5) J J J J J J J J J J J J J J J J J ?_;refine zz ?_
    exact yb (Uf [0,1,2,3,4,5]) hd11
   ·
    refine Un (Gh J J) J (zz ?_)
    exact yb (Uf [0,1,2,3,4,5,6]) hd8
  refine DAL.have_ 9 (ms 14 55) ⟨32,[(0,.o (.c (.ptr 0 0))),(2,.o (.c (.ptr 2 0))),(3,.o (.c (.ptr 4 0))),(4,I n),(13,.o (.ag [.ref 3])),(14,I n),(15,.o (.c (.ptr 0 0))),(17,.o (.c (.ptr 0 0))),(18,.o (.c (.sb 5 4 1)))],[cub b c2,.gh 0 (.c (.ptr 0 0)),.box [nilV,jn 0,jn 0,jn 0,nilV,nilV],.row 1 (els l.Rows),.box [.ref 3],.box [jn 1,jn 2,jn 5,jn 16]]⟩ ?_ (fun hd17 => ?_)
  ·
   refine DAL.two 3 11 (by kernel_rfl) J J ?_ ?_
   ·
    refine Xz (lo := [_]) (gs := [(0,.c (.ptr 0 0))]) (lo' := [_]) (new := []) [0] [(0,0,.ptr 0 0)] (k4) J J J J J J J J J J J J J J J J J ?_;refine zz ?_
    exact yb (Uf [0,1,2,3,4,5]) hd12
   ·
    refine Un (Gh J J) J (zz ?_)
    exact yb (Uf [0,1,2,3,4,5,6]) hd9
  refine DAL.have_ 9 (ms 14 31) ⟨32,[(0,.o (.c (.ptr 0 0))),(2,.o (.c (.ptr 2 0))),(3,.o (.c (.ptr 4 0))),(4,I n),(13,.o (.ag [.ref 3])),(14,I n),(15,.o (.c (.ptr 0 0))),(16,I seed),(17,.o (.c (.ptr 0 0)))],[cub b c3,.gh 0 (.c (.ptr 0 0)),.box [nilV,jn 0,jn 0,jn 0,nilV,nilV],.row 1 (els l.Rows),.box [.ref 3]]⟩ ?_ (fun hd18 => ?_)
  ·
   refine DAL.two 5 11 (by kernel_rfl) J J ?_ ?_
   ·
    refine Un (Uo J J) J (zz ?_)
    exact yb (Uf [0,1,2,3,4,5]) hd12
   ·
    refine Un (Gh J J) J (zz ?_)
    exact yb (Uf [0,1,2,3,4,5]) hd10
  refine DAL.have_ 10 (ms 14 2070) ⟨32,[(0,.o (.c (.ptr 0 0))),(2,.o (.c (.ptr 2 0))),(3,.o (.c (.ptr 4 0))),(4,I n),(14,I n),(15,.o (.c (.ptr 0 0))),(17,.o (.c (.ptr 0 0))),(5,.o (.c (.ptr 5 0)))],[cub b c2,.gh 0 (.c (.ptr 0 0)),.box [nilV,jn 0,jn 0,jn 0,nilV,nilV],.row 1 (els l.Rows),.box [.ref 3],.box [nilV,jn 0,jn 0,jn 0,nilV,nilV]]⟩ ?_ (fun hd19 => ?_)
  ·
   refine DAL.three 0 3 5 (by kernel_rfl) J J J ?_ ?_ ?_
   ·
    refine Gw J J (zz ?_)
    exact yb (Uf [0,1,2,3,4,5]) hd15
   ·
    refine Xz (lo := [_]) (gs := [(0,.c (.ptr 0 0))]) (lo' := [_]) (new := []) [0] [(0,0,.ptr 0 0)] (k4) J J J J J J J J J J J J J J J J J ?_;refine zz ?_
    exact yb (Uf [0,1,2,3,4,5]) hd14
   ·
    refine Un (Uo J J) J (zz ?_)
    exact yb (Uf [0,1,2,3,4,6,5]) hd13
  refine DAL.have_ 10 (ms 14 54) ⟨32,[(0,.o (.c (.ptr 0 0))),(2,.o (.c (.ptr 2 0))),(3,.o (.c (.ptr 4 0))),(4,I n),(14,I n),(15,.o (.c (.ptr 0 0))),(17,.o (.c (.ptr 0 0))),(18,.o (.c (.sb 5 4 1)))],[cub b c2,.gh 0 (.c (.ptr 0 0)),.box [nilV,jn 0,jn 0,jn 0,nilV,nilV],.row 1 (els l.Rows),.box [.ref 3],.box [jn 1,jn 2,jn 5,jn 16]]⟩ ?_ (fun hd20 => ?_)
  ·
   refine DAL.three 0 3 11 (by kernel_rfl) J J J ?_ ?_ ?_
   ·
    refine Gw J J (zz ?_)
    exact yb (Uf [0,1,2,3,4,5]) hd17
   ·
    refine Xz (lo := [_]) (gs := [(0,.c (.ptr 0 0))]) (lo' := [_]) (new := []) [0] [(0,0,.ptr 0 0)] (k4) J J J J J J J J J J J J J J J J J ?_;refine zz ?_
    exact yb (Uf [0,1,2,3,4,5]) hd16
   ·
    refine Un (Gh J J) J (zz ?_)
    exact yb (Uf [0,1,2,3,4,5,6]) hd13
  refine DAL.have_ 10 (ms 14 30) ⟨32,[(0,.o (.c (.ptr 0 0))),(2,.o (.c (.ptr 2 0))),(3,.o (.c (.ptr 4 0))),(4,I n),(14,I n),(15,.o (.c (.ptr 0 0))),(16,I seed),(17,.o (.c (.ptr 0 0)))],[cub b c3,.gh 0 (.c (.ptr 0 0)),.box [nilV,jn 0,jn 0,jn 0,nilV,nilV],.row 1 (els l.Rows),.box [.ref 3]]⟩ ?_ (fun hd21 => ?_)
  ·
   refine DAL.three 0 5 11 (by kernel_rfl) J J J ?_ ?_ ?_
   ·
    refine Gw J J (zz ?_)
    exact yb (Uf [0,1,2,3,4]) hd18
   ·
    refine Un (Uo J J) J (zz ?_)
    exact yb (Uf [0,1,2,3,4,5]) hd16
   ·
    refine Un (Gh J J) J (zz ?_)
    exact yb (Uf [0,1,2,3,4,5]) hd14
  refine DAL.have_ 10 (ms 14 23) ⟨32,[(0,.o (.c (.ptr 0 0))),(2,.o (.c (.ptr 2 0))),(3,.o (.c (.ptr 4 0))),(4,I n),(13,.o (.ag [.ref 3])),(14,I n),(15,.o (.c (.ptr 0 0))),(17,.o (.c (.ptr 0 0)))],[cub b c2,.gh 0 (.c (.ptr 0 0)),.box [nilV,jn 0,jn 0,jn 0,nilV,nilV],.row 1 (els l.Rows),.box [.ref 3]]⟩ ?_ (fun hd22 => ?_)
  ·
   refine DAL.three 3 5 11 (by kernel_rfl) J J J ?_ ?_ ?_
   ·
    refine Xz (lo := [_]) (gs := [(0,.c (.ptr 0 0))]) (lo' := [_]) (new := []) [0] [(0,0,.ptr 0 0)] (k4) J J J J J J J J J J J J J J J J J ?_;refine zz ?_
    exact yb (Uf [0,1,2,3,4]) hd18
   ·
    refine Un (Uo J J) J (zz ?_)
    exact yb (Uf [0,1,2,3,4,5]) hd17
   ·
    refine Un (Gh J J) J (zz ?_)
    exact yb (Uf [0,1,2,3,4,5]) hd15
  refine DAL.have_ 11 (ms 14 22) ⟨32,[(0,.o (.c (.ptr 0 0))),(2,.o (.c (.ptr 2 0))),(3,.o (.c (.ptr 4 0))),(4,I n),(14,I n),(15,.o (.c (.ptr 0 0))),(17,.o (.c (.ptr 0 0)))],[cub b c2,.gh 0 (.c (.ptr 0 0)),.box [nilV,jn 0,jn 0,jn 0,nilV,nilV],.row 1 (els l.Rows),.box [.ref 3]]⟩ ?_ (fun hd23 => ?_)
  ·
   refine DAL.four 0 3 5 11 (by kernel_rfl) J J J J ?_ ?_ ?_ ?_
   ·
    refine Gw J J (zz ?_)
    exact yb (Uf [0,1,2,3,4]) hd22
   ·
    refine Xz (lo := [_]) (gs := [(0,.c (.ptr 0 0))]) (lo' := [_]) (new := []) [0] [(0,0,.ptr 0 0)] (k4) J J J J J J J J J J J J J J J J J ?_;refine zz ?_
    exact yb (Uf [0,1,2,3,4]) hd21
   ·
    refine Un (Uo J J) J (zz ?_)
    exact yb (Uf [0,1,2,3,4,5]) hd20
   ·
    refine Un (Gh J J) J (zz ?_)
    exact yb (Uf [0,1,2,3,4,5]) hd19
  refine DAL.mv dr3A [] dr3M 1 _ 14 (by kernel_rfl) J J J J ?_;refine DAL.mv dr3A [] dr3M 2 _ 15 (by kernel_rfl) J J J J ?_;refine DAL.mv dr3A [] dr3M 4 _ 17 (by kernel_rfl) J J J J ?_
  exact yb (Uf [0,1,2,3,4]) hd23
 refine Qd ?_
 refine A_seqW ⟨32,[(0,.o (.c (.ptr 0 0))),(2,.o (.c (.ptr 2 0))),(5,.o (.c (.ptr 3 0)))],[cub b c5,.gh 0 (.c (.ptr 0 0)),.box [nilV,jn 0,jn 0,jn 0,nilV,nilV],.box [.ref 4,jn r.Players,jn r.Seed,jn r.Every,.ref 5,.ref 6],.row 1 (els r.Level.Rows),.row 1 (els r.Rows),.row 1 (els r.Keys)]⟩ ?_ ?_
 ·
  refine A_drawn (f := 9) J J ?_
  refine DAL.have_ 0 (ms 9 511) ⟨32,[(0,.o (.c (.ptr 0 0))),(2,.o (.c (.ptr 2 0))),(4,I n),(5,.o (.c (.ptr 3 0)))],[cub b c5,.gh 0 (.c (.ptr 0 0)),.box [nilV,jn 0,jn 0,jn 0,nilV,nilV],.box [.ref 7,jn r.Players,jn r.Seed,jn r.Every,.ref 8,.ref 9],.row 1 (els r0.Level.Rows),.row 1 (els r0.Rows),.row 1 (els r0.Keys),.row 1 (els r.Level.Rows),.row 1 (els r.Rows),.row 1 (els r.Keys)]⟩ ?_ (fun hd0 => ?_)
  ·
   refine DAL.nil (by kernel_rfl) (Q0 ?_)
   exact Uf [0,1,2,3,7,8,9]
  refine DAL.have_ 1 (ms 9 255) ⟨32,[(0,.o (.c (.ptr 0 0))),(2,.o (.c (.ptr 2 0))),(4,I n),(5,.o (.c (.ptr 3 0))),(24,.o (.ag [.ref 4,jn r0.Players,jn r0.Seed,jn r0.Every,.ref 5,.ref 6])),(25,.o (.c (.ptr 0 0))),(26,I n),(27,.o (.c (.rd [] (sl rows)))),(28,.tu [.ag [.ref 7,jn r.Players,jn r.Seed,jn r.Every,.ref 8,.ref 9],.c (bv true)]),(23,.tu [.ag [.ref 7,jn r.Players,jn r.Seed,jn r.Every,.ref 8,.ref 9],.c (bv true)]),(29,.o (.ag [.ref 7,jn r.Players,jn r.Seed,jn r.Every,.ref 8,.ref 9]))],[cub b c5,.gh 0 (.c (.ptr 0 0)),.box [nilV,jn 0,jn 0,jn 0,nilV,nilV],.box [.ref 4,jn r0.Players,jn r0.Seed,jn r0.Every,.ref 5,.ref 6],.row 1 (els r0.Level.Rows),.row 1 (els r0.Rows),.row 1 (els r0.Keys),.row 1 (els r.Level.Rows),.row 1 (els r.Rows),.row 1 (els r.Keys)]⟩ ?_ (fun hd1 => ?_)
  ·
   refine x9 8 J ?_;refine G1 J J (zz ?_)
   exact yb (Uf [0,1,2,3,4,5,6,7,8,9]) hd0
  refine DAL.have_ 5 (ms 9 15) ⟨32,[(0,.o (.c (.ptr 0 0))),(2,.o (.c (.ptr 2 0))),(4,I n),(5,.o (.c (.ptr 3 0))),(24,.o (.ag [.ref 4,jn r0.Players,jn r0.Seed,jn r0.Every,.ref 5,.ref 6])),(25,.o (.c (.ptr 0 0))),(26,I n),(27,.o (.c (.rd [] (sl rows))))],[cub b c5,.gh 0 (.c (.ptr 0 0)),.box [nilV,jn 0,jn 0,jn 0,nilV,nilV],.box [.ref 4,jn r0.Players,jn r0.Seed,jn r0.Every,.ref 5,.ref 6],.row 1 (els r0.Level.Rows),.row 1 (els r0.Rows),.row 1 (els r0.Keys)]⟩ ?_ (fun hd2 => ?_)
  ·
   refine x9 4 J ?_;refine Un (Z3 J J (k8) J J J) J ?_;refine zz ?_;refine DAL.mv dr4A [] dr4M 5 _ 23 (by kernel_rfl) J J J J ?_;refine DAL.ext dr4A [] dr4M 6 _ 29 (by kernel_rfl) J J J J J J ?_;refine DAL.ext dr4A [] dr4M 7 _ 30 (by kernel_rfl) J J J J J J ?_
   exact yb (Uf [0,1,2,3,4,5,6,7,8,9]) hd1
  refine DAL.have_ 6 (ms 9 14) ⟨32,[(0,.o (.c (.ptr 0 0))),(2,.o (.c (.ptr 2 0))),(4,I n),(5,.o (.c (.ptr 3 0))),(25,.o (.c (.ptr 0 0))),(26,I n),(27,.o (.c (.rd [] (sl rows))))],[cub b c5,.gh 0 (.c (.ptr 0 0)),.box [nilV,jn 0,jn 0,jn 0,nilV,nilV],.box [.ref 4,jn r0.Players,jn r0.Seed,jn r0.Every,.ref 5,.ref 6],.row 1 (els r0.Level.Rows),.row 1 (els r0.Rows),.row 1 (els r0.Keys)]⟩ ?_ (fun hd3 => ?_)
  ·
   refine x9 0 J (Gw J J (zz ?_))
   exact yb (Uf [0,1,2,3,4,5,6]) hd2
  refine DAL.have_ 6 (ms 9 7) ⟨32,[(0,.o (.c (.ptr 0 0))),(2,.o (.c (.ptr 2 0))),(4,I n),(5,.o (.c (.ptr 3 0))),(24,.o (.ag [.ref 4,jn r0.Players,jn r0.Seed,jn r0.Every,.ref 5,.ref 6])),(25,.o (.c (.ptr 0 0))),(26,I n)],[cub b c4,.gh 0 (.c (.ptr 0 0)),.box [nilV,jn 0,jn 0,jn 0,nilV,nilV],.box [.ref 4,jn r0.Players,jn r0.Seed,jn r0.Every,.ref 5,.ref 6],.row 1 (els r0.Level.Rows),.row 1 (els r0.Rows),.row 1 (els r0.Keys)]⟩ ?_ (fun hd4 => ?_)
  ·
   refine x9 3 J ?_;refine Xz (lo := [_]) (gs := [(0,.c (.ptr 0 0))]) (lo' := [_]) (new := []) [0] [(0,0,.ptr 0 0)] (k6) J J J J J J J J J J J J J J J J J ?_;refine zz ?_
   exact yb (Uf [0,1,2,3,4,5,6]) hd2
  refine DAL.have_ 7 (ms 9 6) ⟨32,[(0,.o (.c (.ptr 0 0))),(2,.o (.c (.ptr 2 0))),(4,I n),(5,.o (.c (.ptr 3 0))),(25,.o (.c (.ptr 0 0))),(26,I n)],[cub b c4,.gh 0 (.c (.ptr 0 0)),.box [nilV,jn 0,jn 0,jn 0,nilV,nilV],.box [.ref 4,jn r0.Players,jn r0.Seed,jn r0.Every,.ref 5,.ref 6],.row 1 (els r0.Level.Rows),.row 1 (els r0.Rows),.row 1 (els r0.Keys)]⟩ ?_ (fun hd5 => ?_)
  ·
   refine DAL.two 0 3 (by kernel_rfl) J J ?_ ?_
   ·
    refine Gw J J (zz ?_)
    exact yb (Uf [0,1,2,3,4,5,6]) hd4
   ·
    refine Xz (lo := [_]) (gs := [(0,.c (.ptr 0 0))]) (lo' := [_]) (new := []) [0] [(0,0,.ptr 0 0)] (k6) J J J J J J J J J J J J J J J J J ?_;refine zz ?_
    exact yb (Uf [0,1,2,3,4,5,6]) hd3
  refine DAL.mv dr4A [] dr4M 1 _ 25 (by kernel_rfl) J J J J ?_;refine DAL.mv dr4A [] dr4M 2 _ 26 (by kernel_rfl) J J J J ?_
  exact yb (Uf [0,1,2,3,4,5,6]) hd5
 refine zy (Gw J J ?_);refine G1 J J (zz (Xa (F_r ?_)))
 exact Xl J J J J (Ue [0,1,4,5,6] J J J)
theorem S_DrawReplay (b : List UInt8) (hb : b.length ≤ 1048576) : Con Tryz.prog 5 [] [al b] (ownO (Enc.e (replD b (newCu b)))) (.o (.ag (ownV 0 (Enc.e (replD b (newCu b)))))) := by
 have k1 := S_l01New b hb
 have k2 := S_l07Replay b (newCu b) hb (Nat.zero_le _)
 generalize (rRows b (newCu b)).2 = c5 at k2
 generalize replD b (newCu b) = r at k2 ⊢
 refine Con.of Tryz.func5 J Tryz.ntmps5 J (fun E => ?_)
 refine zy (Un (Gh J J) J (zz (zy (z0 J ?_))));refine Xz (lo := []) (gs := []) (lo' := []) (new := [_]) [] [] (k1) J J J J J J J J J J J J J J J J J ?_;refine AL.weak (st' := (⟨_,[(2,.o (.c (.ptr 0 0))),(4,.o (.c (.ptr 1 0)))],[.box [nilV,jn 0,jn 0,jn 0,nilV,nilV],cub b (newCu b)]⟩ : St)) (Uf [0,1]) ?_;refine Xz (lo := [_]) (gs := [(0,.c (.ptr 0 0))]) (lo' := [_]) (new := [_,_,_]) [1] [(0,0,.ptr 0 0)] (k2) J J J J J J J J J J J J J J J J J ?_;refine G1 J J (zz (Xa (F_r ?_)))
 exact Xl J J J J (Ue [2,3,4] J J J)
end
section
open Go.RowKit

theorem RD.tRep {l : TLevel} {n : Nat} {seed : Int} {e : Nat} {rows : List (List Int)} {k : Nat} (h : RD l n seed e rows) (gr : Enc.gd rows) : RepIn (tampK l n seed e rows k) ∧ KeysIn (tampK l n seed e rows k) := by
 have h1 := h.rep gr (k := rows.length) (Nat.le_refl _)
 have hd : (tampD l n seed e rows k).size ≤ 1048576 := by
  have h5 := Yt (worldBytes (lockW l n seed rows (k * e))) (worldBytes (plus1 (lockW l n seed rows ((k + 1) * e))))
  have h6 := Yp (plus1 (lockW l n seed rows ((k + 1) * e)))
  unfold tampD
  omega
 have hks : KeysIn (tampK l n seed e rows k) := fun x hx => by
  rcases List.mem_or_eq_of_mem_set hx with h2 | h2
  ·exact h1.2 x h2
  ·rw [h2]; exact hd
 have hg1 := h1.1.gd
 have hkl := tamp_len (l := l) (n := n) (seed := seed) (e := e) (rows := rows) (k := k)
 have hL := h.hL
 have hle : rows.length / e ≤ rows.length := Nat.div_le_self _ _
 have hg : Enc.gd (tampK l n seed e rows k) := ⟨h.gl,hg1.2.1,hg1.2.2.1,hg1.2.2.2.1,gr,⟨by rw [hkl]; omega,fun x hx => by have := hks x hx; show x.size ≤ _; omega⟩⟩
 exact ⟨ok_in hg h.ll h.tOk,hks⟩
theorem law_Tampered (code : List UInt8) (hg : Enc.gd code) : Con Tryz.prog 3 [] [al code] [] (B true) := by
 have cb := L_big code
 by_cases hb : code.length > 1048576
 ·rw [decide_eq_true hb] at cb
  refine Con.of Tryz.func3 J Tryz.ntmps3 J (fun E => ?_)
  refine zy (z1 J (zz (Qd (zy (z0 J ?_)))));refine zx (Qj J J (cb) J) J ?_;refine zz (Qm J (zy (z1 J (zz (Xa (T_r (F_r ?_)))))))
  exact Ud J (Ue [] J J J)
 rw [decide_eq_false hb] at cb
 have hb : code.length ≤ 1048576 := by omega
 have cd := S_DrawReplay code hb
 have R := repl_rd (b := code) (c := newCu code) (Nat.zero_le _)
 have hro := rRows_ok code (newCu code)
 have ca0 := L_at code 0 (by omega) hb
 have hk0 := atM_rng code 0
 unfold replD at cd
 generalize (rlD code (newCu code)).1 = l at cd R
 generalize (rsD code (newCu code)).1 = seed at cd R
 generalize (rRows code (newCu code)).1 = rows at cd R hro
 generalize rN code (newCu code) = n at cd R hro
 generalize rE code (newCu code) = e at cd R
 have gr : Enc.gd rows := gd_rows (n := n) (by omega) (by have := R.hn; omega) hro.2
 have hre := R.rep gr (k := rows.length) (Nat.le_refl _)
 have htm := R.tamper (Nat.le_refl _)
 have hkl : (replK l n seed e rows rows.length).Keys.length = rows.length / e := Zg _
 have hrk : replK l n seed e rows rows.length = ⟨l,n,seed,e,rows,keysK l n seed e rows (rows.length / e)⟩ := by rw [replK,List.take_length]
 by_cases hK : rows.length / e = 0
 ·have cft := I_FindTamper _ hre.1.gd hre.1 hre.2
  rw [htm] at cft
  generalize replK l n seed e rows rows.length = r at cd hkl cft
  have hlk := Yx r.Keys
  have f0 : decide (((els r.Keys).length : Int) = 0) = true := decide_eq_true (by omega)
  have g1 : decide ((-1 : Int) = -1) = true := rfl
  refine Con.of Tryz.func3 J Tryz.ntmps3 J (fun E => ?_)
  refine zy (z1 J (zz (Qd (zy (z0 J ?_)))));refine zx (Qj J J (cb) J) J ?_;refine zz (Ql J (Qh (Q0 (zy (z0 J ?_)))));refine Un (Z3 J J (cd) J J J) J ?_;refine Un (Gh J J) J ?_;refine G1 J J (zz (Qd (zy (Gg J J (z3 J (zx (Kc J J J J) J (Gr J (zz ?_))))))));refine Qm J (zy (Gw J J ?_));refine zx (Qj J J (cft) J) J ?_;refine Gr J (z1 J (zz (Xa (T_r (F_r ?_)))))
  exact Ud J (Ue [] J J J)
 obtain ⟨k,hk⟩ : ∃ k : Nat,(k : Int) = atM code 0 % ((rows.length / e : Nat) : Int) := ⟨(atM code 0 % ((rows.length / e : Nat) : Int)).toNat,Int.toNat_of_nonneg (Int.emod_nonneg _ (by omega))⟩
 have hkK : k < rows.length / e := by have := Int.emod_lt_of_pos (atM code 0) (b := ((rows.length / e : Nat) : Int)) (by omega); omega
 have hL := R.hL
 have hKL : rows.length / e ≤ rows.length := Nat.div_le_self _ _
 have hk1 : keyAt (replK l n seed e rows rows.length) k = some (lockW l n seed rows ((k + 1) * e)) := by
  have h := R.key (k := rows.length) (Nat.le_refl _) (j := (k : Int)) ⟨by omega,by omega⟩
  rwa [show ((k : Int) + 1).toNat = k + 1 by omega] at h
 have hk0 : keyAt (replK l n seed e rows rows.length) ((k : Int) - 1) = some (lockW l n seed rows (k * e)) := by
  have h := R.key (k := rows.length) (Nat.le_refl _) (j := (k : Int) - 1) ⟨by omega,by omega⟩
  rwa [show ((k : Int) - 1 + 1).toNat = k by omega] at h
 have hk2 := R.tAt hkK
 have htt := R.tTam hkK
 have hrt := R.tRep (k := k) gr
 have ck1 := I_KeyAt (replK l n seed e rows rows.length) k hre.1.gd ⟨by omega,by omega⟩ hre.1 hre.2
 have ck0 := I_KeyAt (replK l n seed e rows rows.length) ((k : Int) - 1) hre.1.gd ⟨by omega,by omega⟩ hre.1 hre.2
 have ck2 := I_KeyAt (tampK l n seed e rows k) k hrt.1.gd ⟨by omega,by omega⟩ hrt.1 hrt.2
 rw [hk1] at ck1
 rw [hk0] at ck0
 rw [hk2] at ck2
 have cft := I_FindTamper _ hrt.1.gd hrt.1 hrt.2
 rw [htt] at cft
 have iw1 := R.in_ ((k + 1) * e)
 have iw0 := R.in_ (k * e)
 have hg1 := R.good ((k + 1) * e)
 have hsz1 := Yp (plus1 (lockW l n seed rows ((k + 1) * e)))
 have hsz0 := Yp (lockW l n seed rows (k * e))
 have hsc := R.score ((k + 1) * e)
 have hrk2 : tampK l n seed e rows k = ⟨l,n,seed,e,rows,(keysK l n seed e rows (rows.length / e)).set k (tampD l n seed e rows k)⟩ := rfl
 have hD : tampD l n seed e rows k = deltaT (worldBytes (lockW l n seed rows (k * e))) (worldBytes (plus1 (lockW l n seed rows ((k + 1) * e)))) := rfl
 have hrt2 : tampK l n seed e rows k = ⟨(replK l n seed e rows rows.length).Level,(replK l n seed e rows rows.length).Players,(replK l n seed e rows rows.length).Seed,(replK l n seed e rows rows.length).Every,(replK l n seed e rows rows.length).Rows,(replK l n seed e rows rows.length).Keys.set k (tampD l n seed e rows k)⟩ := by rw [hrk]; rfl
 rw [hrt2] at ck2 cft
 rw [hD] at ck2 cft
 generalize lockW l n seed rows ((k + 1) * e) = w1 at ck1 ck2 cft iw1 hg1 hsz1 hsc
 generalize lockW l n seed rows (k * e) = w0 at ck0 ck2 cft iw0 hsz0
 have gv : Enc.gd (plus1 w1) := by
  obtain ⟨a1,a2,a3,a4,a5⟩ := iw1.gd
  refine ⟨a1,a2,a3,⟨by show (w1.Scores.set 0 _).length ≤ _; rw [List.length_set]; exact a4.1,fun x hx => ?_⟩,a5⟩
  rcases List.mem_or_eq_of_mem_set hx with h1 | h1
  ·exact a4.2 x h1
  ·have h0 : w1.Scores.getD 0 0 ∈ w1.Scores := by
    rw [List.getD_eq_getElem?_getD,List.getElem?_eq_getElem (by rw [hg1.2.2.2]; exact R.hn.1)]
    exact List.getElem_mem _
   have h2 := a4.2 _ h0
   have h3 := hsc _ h0
   exact ⟨by have := h2.1; omega,by omega⟩
 have cw0 := I_WorldBytes w0 iw0.gd
 have cwv := I_WorldBytes (plus1 w1) gv
 have cdt := I_DeltaText (worldBytes w0) (worldBytes (plus1 w1)) (by omega) (by omega)
 have csw := S_SameWorld (plus1 w1) (plus1 w1) gv
 rw [decide_eq_true rfl] at csw
 obtain ⟨D,hDD⟩ : ∃ D,D = deltaT (worldBytes w0) (worldBytes (plus1 w1)) := ⟨_,rfl⟩
 rw [← hDD] at ck2 cft cdt
 have hn1 : 0 < w1.Scores.length := by rw [hg1.2.2.2]; exact R.hn.1
 have hsg := R.hn
 have h64 : -9223372036854775808 ≤ w1.Scores.getD 0 0 ∧ w1.Scores.getD 0 0 ≤ 19200 := by
  have h0 : w1.Scores.getD 0 0 ∈ w1.Scores := by
   rw [List.getD_eq_getElem?_getD,List.getElem?_eq_getElem hn1]
   exact List.getElem_mem _
  exact ⟨(iw1.gd.2.2.2.1.2 _ h0).1,hsc _ h0⟩
 have hat1 := Yw (l := w1.Scores) (j := 0) hn1 0 rfl
 generalize replK l n seed e rows rows.length = r at cd hkl ck1 ck0 ck2 cft
 have hlk := Yx r.Keys
 have hls := Yx w1.Scores
 have hnl : ([] : List (List T)).length = 0 := rfl
 have hkb : (els r.Keys).length ≤ 400 := by omega
 have hsb : (els w1.Scores).length ≤ 4 := by have := hg1.2.2.2; omega
 have hatk := Yv (xs := r.Keys) (show k < r.Keys.length by omega)
 have hsc1 : els (plus1 w1).Scores = (els w1.Scores).set 0 (Enc.e (w1.Scores.getD 0 0 + 1)) := els_set _ _ _
 have f0 : decide (((els r.Keys).length : Int) = 0) = false := decide_eq_false (by omega)
 have hkr : (k : Int) = atM code 0 % ((els r.Keys).length : Int) := by rw [hk,hlk,hkl]
 have hd0 : (1 : Int) ≤ ((els r.Keys).length : Int) := by omega
 have g1 : decide ((k : Int) = k) = true := decide_eq_true rfl
 refine Con.of Tryz.func3 J Tryz.ntmps3 J (fun E => ?_)
 refine zy (z1 J (zz (Qd (zy (z0 J ?_)))));refine zx (Qj J J (cb) J) J ?_;refine zz (Ql J (Qh (Q0 (zy (z0 J ?_)))));refine Un (Z3 J J (cd) J J J) J ?_;refine Un (Gh J J) J ?_;refine G1 J J (zz (Qd (zy (Gg J J (z3 J (zx (Kc J J J J) J (Gr J (zz ?_))))))));refine Ql J (Qh (Q0 (Qd (Xh [[],[0],[],[2],[2,3],(u9 5),(u9 6)] [[],[23],[],[25],[25,26],[23,24,25,26,27],[23,24,25,26,27,28]] [[25,26,27],[25,26,27],[23,24],[23,24],[23,24],[],[],[0]] J (Ve (Vo J) J ?_)))));refine Ve (Qj J J (ca0) J) J ?_;refine Ve (Vq J J) J (Ve (Vr J) J (Ve (Kc J J J J) J (Ve (Ul J) J (Ve (Qb J J J) J (Vd (zz ?_))))))
 refine AWP.pre (st' := (⟨_,[(3,.o (.c (.ptr 3 0))),(4,I k)],[.row 1 (els r.Level.Rows),.row 1 (els r.Rows),.row 1 (els r.Keys),.box [.ref 0,jn r.Players,jn r.Seed,jn r.Every,.ref 1,.ref 2]]⟩ : St)) ?_ (V6 [0,1,2,3] J (.c J (.cons (Xv hkr.symm) (.nil))))
 refine zy (Un (Zx J J J) J (Gg J J (z3 J ?_)));refine M_app J J J J J J J J J J (Yy _) (els_k _) (by omega) (by omega) ?_;refine Gg J J ?_;refine Gl J (zz (zy (Gw J J (z0 J ?_))));refine AL.weak (st' := (⟨_,[(3,.o (.c (.ptr 2 0))),(4,I k),(35,.o (.ag [.ref 0,jn r.Players,jn r.Seed,jn r.Every,.ref 1,.ref 3])),(36,I k)],[.row 1 (els r.Level.Rows),.row 1 (els r.Rows),.box [.ref 0,jn r.Players,jn r.Seed,jn r.Every,.ref 1,.ref 3],.row 1 (els r.Keys)]⟩ : St)) (Uf [0,1,3,4]) ?_;refine Un (Z3 J J (ck1) J J J) J ?_;refine zx (Ga J) J (ze J (ze J (Un (Gh J J) J ?_)));refine G1 J J (z1 J (zz (zy (Gw J J (Un (Gh J J) J ?_)))));refine G1 J J (zz (zy (Un (Zx J J J) J (Gg J J (z3 J ?_)))));refine AL.weak (st' := (⟨_,[(3,.o (.c (.ptr 2 0))),(4,I k),(5,.o (.c (.ptr 7 0))),(6,B true),(7,.o (.c (.ptr 8 0))),(41,.o (.c (.ref 9))),(43,.o (.c (.ref 5)))],[.row 1 (els r.Level.Rows),.row 1 (els r.Rows),.box [.ref 0,jn r.Players,jn r.Seed,jn r.Every,.ref 1,.ref 3],.row 1 (els r.Keys),.row 1 (els w1.Level.Rows),.row 1 (els w1.Scores),.row 9 (els w1.Bodies),.box [.ref 4,jn w1.Tick,jn w1.Seed,.ref 5,.ref 6],.box [.ref 4,jn w1.Tick,jn w1.Seed,.ref 5,.ref 6],.row 1 []]⟩ : St)) (Uf [0,1,2,3,4,5,6,7,8,9]) ?_;refine M_app J J J J J J J J J J (Yy _) (els_k _) (by omega) (by omega) ?_;refine Gg J J ?_;refine Gl J (zz (Qd ?_))
 refine AWP.pre (st' := (⟨_,[(3,.o (.c (.ptr 2 0))),(4,I k),(5,.o (.c (.ptr 7 0))),(6,B true),(7,.o (.c (.ptr 8 0)))],[.row 1 (els r.Level.Rows),.row 1 (els r.Rows),.box [.ref 0,jn r.Players,jn r.Seed,jn r.Every,.ref 1,.ref 3],.row 1 (els r.Keys),.row 1 (els w1.Level.Rows),.row 1 (els w1.Scores),.row 9 (els w1.Bodies),.box [.ref 4,jn w1.Tick,jn w1.Seed,.ref 5,.ref 6],.box [.ref 4,jn w1.Tick,jn w1.Seed,.ref 9,.ref 6],.row 1 (els w1.Scores)]⟩ : St)) ?_ (Uf [0,1,2,3,4,5,6,7,8,9])
 refine Xh [[],[0],[],[2],[2,3],[2,3,4],[2,3,4,5],(u9 7),(u9 8)] [[],[46],[],[48],[48,49],[48,49,50],[48,49,50,51],[46,47,48,49,50,51,52],[46,47,48,49,50,51,52,53]] [[48,49,50,51,52],[48,49,50,51,52],[46,47],[46,47],[46,47],[46,47],[46,47],[],[]] J (Ve (Vq J J) J (Ve (Vr J) J (Ve (Vq J J) J (Ve (Vr J) J (Ve (Q3 J J J J J (by omega) (by omega)) J (Ve (qk J (by assumption) J) J (Ve (Vt J) J (Ve (Q3 J J J J J (by omega) (by omega)) J (Vd ?_)))))))))
 with_reducible refine Xd ?_
 refine Xg J J J J J J J J J (by assumption) J J (zz ?_)
 refine AWP.pre (st' := (⟨_,[(3,.o (.c (.ptr 2 0))),(4,I k),(5,.o (.c (.ptr 7 0))),(6,B true),(7,.o (.c (.ptr 8 0)))],[.row 1 (els r.Level.Rows),.row 1 (els r.Rows),.box [.ref 0,jn r.Players,jn r.Seed,jn r.Every,.ref 1,.ref 3],.row 1 (els r.Keys),.row 1 (els w1.Level.Rows),.row 1 (els w1.Scores),.row 9 (els w1.Bodies),.box [.ref 4,jn w1.Tick,jn w1.Seed,.ref 5,.ref 6],.box [.ref 4,jn w1.Tick,jn w1.Seed,.ref 9,.ref 6],.row 1 (els (plus1 w1).Scores)]⟩ : St)) ?_ (by rw [hsc1]; exact Uf [0,1,2,3,4,5,6,7,8,9])
 refine zy (Gw J J (z0 J (Ux J ?_)));refine Un (Z3 J J (ck0) J J J) J ?_;refine zx (Ga J) J (ze J (ze J (Un (Gh J J) J ?_)));refine G1 J J (z1 J (zz (Qd ?_)))
 refine AWP.pre (st' := (⟨_,[(3,.o (.c (.ptr 2 0))),(4,I k),(6,B true),(7,.o (.c (.ptr 8 0))),(8,.o (.c (.ptr 13 0))),(9,B true)],[.row 1 (els r.Level.Rows),.row 1 (els r.Rows),.box [.ref 0,jn r.Players,jn r.Seed,jn r.Every,.ref 1,.ref 3],.row 1 (els r.Keys),.row 1 (els w1.Level.Rows),.row 1 (els w1.Scores),.row 9 (els w1.Bodies),.box [.ref 4,jn w1.Tick,jn w1.Seed,.ref 5,.ref 6],.box [.ref 4,jn w1.Tick,jn w1.Seed,.ref 9,.ref 6],.row 1 (els (plus1 w1).Scores),.row 1 (els w0.Level.Rows),.row 1 (els w0.Scores),.row 9 (els w0.Bodies),.box [.ref 10,jn w0.Tick,jn w0.Seed,.ref 11,.ref 12]]⟩ : St)) ?_ (Uf [0,1,2,3,4,5,6,7,8,9,10,11,12,13])
 refine Xh [[],[0],[],[],[3],[],[3,4,5],[3,4,5,6],(u9 8),(u9 9)] [[],[61],[],[],[64],[],[64,65,66],[64,65,66,67],[61,62,63,64,65,66,67,68],[61,62,63,64,65,66,67,68,69]] [[63,64,65,66,67,68],[63,64,65,66,67,68],[61,62,64,65,66,67,68],[61,62,63,66],[61,62,63,66],[61,62,63,64,65],[61,62,63],[61,62,63],[],[]] J (Ve (Vq J J) J (Ve (Vr J) J (Ve (Vo J) J (Ve (Vs J J) J ?_))));refine Ve (Qj J J (cw0) J) J ?_;refine Ve (Vs J J) J ?_;refine Ve (Qj J J (cwv) J) J ?_;refine Ve (Qj J J (cdt) J) J ?_;refine Ve (Q3 J J J J J (by omega) (by omega)) J (Vd ?_)
 with_reducible refine Xd ?_
 refine Xg J J J J J J J J J (by assumption) J J (zz ?_)
 refine AWP.pre (st' := (⟨_,[(3,.o (.c (.ptr 2 0))),(4,I k),(6,B true),(7,.o (.c (.ptr 8 0))),(9,B true)],[.row 1 (els r.Level.Rows),.row 1 (els r.Rows),.box [.ref 0,jn r.Players,jn r.Seed,jn r.Every,.ref 1,.ref 3],.row 1 (els (r.Keys.set k D)),.row 1 (els w1.Level.Rows),.row 1 (els w1.Scores),.row 9 (els w1.Bodies),.box [.ref 4,jn w1.Tick,jn w1.Seed,.ref 5,.ref 6],.box [.ref 4,jn w1.Tick,jn w1.Seed,.ref 9,.ref 6],.row 1 (els (plus1 w1).Scores)]⟩ : St)) ?_ (by rw [els_set]; exact Uf [0,1,2,3,4,5,6,7,8,9])
 refine zy (Gw J J (z0 J ?_));refine Un (Z3 J J (ck2) J J J) J ?_;refine zx (Ga J) J (ze J (ze J (Un (Gh J J) J ?_)));refine G1 J J (z1 J (zz (zy (z0 J (z0 J (z5 J (z0 J (zpT J (z0 J ?_)))))))));refine z5 J (z0 J (zpT J (z0 J (z5 J (Gw J J (z5 J (Gw J J (z5 J ?_))))))));refine zx (Qj J J (csw) J) J ?_;refine zpT J (z0 J (z5 J (Gw J J (z5 J ?_))));refine zx (Qj J J (cft) J) J ?_;refine z5 J (z0 J (z5 J (Gr J (zpT J (z1 J (zz (Xa (F_r ?_))))))))
 exact Ud J (Ue [] J J J)
end
section
open Go.ChangeShapes Go.WideShapes Go.ChangeAt Go.RowKit

def RL (w : World) (ts : List T) (cs : List Value) : Prop := ∀ (j : Nat) (t : T) (u : Value),ts[j]? = some t → cs[j]? = some u → RO w (fun _ => True) t u
theorem RL.nil {w : World} {cs : List Value} : RL w [] cs := fun _ _ _ h => by simp at h
theorem RL.app {w : World} {ts us : List T} {cs : List Value} {o n : Nat} (h1 : RL w ts ((cs.drop o).take n)) (hn : ts.length = n) (h2 : RL w us (cs.drop (o + n))) : RL w (ts ++ us) (cs.drop o) := fun j t u h3 h4 => by
 rcases Nat.lt_or_ge j ts.length with hj | hj
 ·rw [List.getElem?_append_left hj] at h3
  exact h1 j t u h3 (by rw [List.getElem?_take,if_pos (by omega)]; exact h4)
 ·rw [List.getElem?_append_right hj] at h3
  refine h2 (j - ts.length) t u h3 ?_
  rw [List.getElem?_drop] at h4 ⊢
  rw [← h4]
  congr 1
  omega
instance : RdOf Tryz.prog 3 Int := rdOf_int Tryz.underlying3 (by kernel_rfl)
instance : RdOf Tryz.prog 9 ByteArray := rdOf_string Tryz.underlying9 (by kernel_rfl)
instance : RdOf Tryz.prog 33 (List Int) := rdOf_slice Tryz.underlying33 (by kernel_rfl)
instance : RdOf Tryz.prog 24 (List ByteArray) := rdOf_slice Tryz.underlying24 (by kernel_rfl)
instance : RdOf Tryz.prog 27 (List (List Int)) := rdOf_slice Tryz.underlying27 (by kernel_rfl)
end
section
open Go.ChangeShapes Go.WideShapes Go.ChangeAt Go.RowKit

theorem rdOf_u8 {P : Program} {t : TypeId} (ht : P.underlying t = some (.int .u8)) (hs : P.cellsOf t = 1) : RdOf P t UInt8 where
 size := hs
 of h := by
  obtain ⟨n,rfl,_,h3⟩ := DataW.trod_int ht h
  have hn : 0 ≤ n ∧ n ≤ 255 := by
   simp [Lit.wf,IntKind.min,IntKind.max,IntKind.signed,IntKind.bits] at h3
   omega
  have h1 : ((UInt8.ofNat n.toNat).toNat : Int) = n := by
   rw [UInt8.toNat_ofNat']
   omega
  refine ⟨UInt8.ofNat n.toNat,trivial,reads_one (t := .v (.int .u8 n)) ?_ (.v _ J)⟩
  show [T.v (.int .u8 ((UInt8.ofNat n.toNat).toNat : Int))] = _
  rw [h1]
instance : RdOf Tryz.prog 5 UInt8 := rdOf_u8 Tryz.underlying5 (by kernel_rfl)
instance : RdOf Tryz.prog 22 (List UInt8) := rdOf_slice Tryz.underlying22 (by kernel_rfl)
end
end Go.Proofs.YtcjclaoogdblbaaGreat
