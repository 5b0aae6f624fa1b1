/-
  Parts of the proof (rules, data, and what functions of the program and of the reference return), among them: PeerOk in the reference; PacketOk and Suspects, in the program and in the reference.
  Conditions: those that each theorem names.
-/
import Derived.Test.YtpmacgnmlmmojaaGreatDoorDDDgRowk13
import Derived.Test.YtpmacgnmlmmojaaGreatDoorDDDgRowk17
import Derived.Test.YtpmacgnmlmmojaaGreatDoorDDDgRowk21
import Derived.Test.YtpmacgnmlmmojaaGreatDoorDDDgRowk22
import Derived.Test.YtpmacgnmlmmojaaGreatDoorDDDgRowk23
import Derived.Test.YtpmacgnmlmmojaaGreatDoorDDDgRowk24
set_option linter.unusedSimpArgs false
set_option linter.unusedVariables false
set_option maxRecDepth 20000
set_option maxHeartbeats 8000000
namespace Go.Proofs.YtpmacgnmlmmojaaGreatDoor
section
open Go.RowKit

/-! ### The levels of a draw -/
def lvS : List ByteArray := [⟨#[35,35,35,35,35,35,47,35,49,46,111,50,35,47,35,46,35,35,46,35,47,35,111,46,46,111,35,47,35,35,35,35,35,35]⟩,⟨#[35,35,35,35,35,35,35,35,35,35,47,35,49,46,46,111,46,46,46,50,35,47,35,46,46,35,35,46,35,35,46,35,47,35,111,46,46,51,46,46,111,52,35,47,35,35,35,35,35,35,35,35,35,35]⟩,⟨#[35,35,35,35,47,35,46,46,35,47,35,35,35,35]⟩,⟨#[35,35,35,35,35,35,35,35,47,35,49,46,50,46,111,111,35,47,35,35,35,35,35,35,35,35]⟩,⟨#[35,35,35,35,35,35,35,47,35,46,46,111,46,46,35,47,35,46,35,35,35,46,35,47,35,46,49,46,50,46,35,47,35,35,35,35,35,35,35]⟩]
def lvT (i : Nat) : ByteArray := lvS.getD i ⟨#[]⟩
theorem lv_ok : ∀ i,i < 5 → levelOk (parseL (lvT i)) = true ∧ (lvT i).size ≤ 1000 := by
 intro i hi
 match i,hi with
 | 0,_ => exact ⟨by kernel_rfl,by decide⟩
 | 1,_ => exact ⟨by kernel_rfl,by decide⟩
 | 2,_ => exact ⟨by kernel_rfl,by decide⟩
 | 3,_ => exact ⟨by kernel_rfl,by decide⟩
 | 4,_ => exact ⟨by kernel_rfl,by decide⟩
theorem S_l02Levels : Con Tryz.prog 111 [] [] [.row 1 (els lvS)] (.o (.c (.ref 0))) := by
 refine Con.of Tryz.func111 J Tryz.ntmps111 J (fun E => ?_)
 refine Wz [11,4,54,34] ?_
 exact Xn J J (W_pre (Wk.sbrow (q := 0) J J (Nat.le_of_ble_eq_true J)) (X6 [0] (by decide) J J J))
def levelC (b : List UInt8) (c : Cu) : TLevel × Cu := (parseL (lvT (belowC b 5 c).1.toNat),(belowC b 5 c).2)
theorem S_l02Level (b : List UInt8) (c : Cu) (hb : b.length ≤ 1048576) (hc : c.i ≤ b.length) : Con Tryz.prog 35 [cub b c,.gh 0 (.c (.ptr 0 0))] [.c (.ptr 0 0)] [cub b (levelC b c).2,.gh 0 (.c (.ptr 0 0)),.row 1 (els (levelC b c).1.Rows)] (.o (.ag [.ref 2])) := by
 have k1 := X5 b 5 c hb hc (by omega)
 have r1 := Ye (b := b) (n := 5) (c := c) (by omega)
 have hl := lv_ok (belowC b 5 c).1.toNat (by omega)
 have k2 := S_ParseLevel (lvT (belowC b 5 c).1.toNat) hl.2 hl.1
 have k3 := S_l02Levels
 rw [levelC]
 generalize belowC b 5 c = p1 at k1 r1 hl k2
 obtain ⟨x1,c1⟩ := p1
 simp only at k1 r1 hl k2
 obtain ⟨i,rfl⟩ : ∃ i : Nat,x1 = i := ⟨x1.toNat,by omega⟩
 have hi : i < lvS.length := by show i < 5; omega
 have he : (els lvS)[(i : Int).toNat]? = some [.v (.string (lvT i))] := by
  rw [Int.toNat_natCast,List.getElem?_map,List.getElem?_eq_getElem hi,lvT,List.getD_eq_getElem?_getD,List.getElem?_eq_getElem hi]; rfl
 rw [Int.toNat_natCast] at k2
 have hll : (els lvS).length = 5 := rfl
 refine Con.of Tryz.func35 J Tryz.ntmps35 J (fun E => ?_)
 refine Wz [4,18,1,4] ?_;refine M1 (Zk J J (k3) J J J) J J ?_;refine z0 J ?_;refine X4 (lo := [_]) (gs := [(0,.c (.ptr 0 0))]) (lo' := [_]) (new := []) [0] [(0,0,.ptr 0 0)] (k1) J J J J J J J J J J J J J J J J J ?_;refine Wz [110,144] ?_;refine M1 (Zk J J (k2) J J J) J J ?_;refine Wz [88,42,42,18,40,2,15,37,67] ?_
 exact Xl J J J J (X6 [0,1,4] (by decide) J J J)
/-! ### Plays -/
def lvD (b : List UInt8) : TLevel × Cu := levelC b (newCu b)
def nD (b : List UInt8) : Int × Cu := belowC b 4 (lvD b).2
def sdD (b : List UInt8) : Int × Cu := belowC b 65536 (nD b).2
def plN (b : List UInt8) : Nat := (nD b).1.toNat + 1
def plRows (b : List UInt8) : List (List Int) := (drawRows b (plN b) 24 (sdD b).2).1
theorem splitG_ok {s : ByteArray} (h : s.size ≤ 1000) : Enc.gd (parseL s) ∧ (parseL s).Rows.length ≤ 1001 := by
 have h1 := splitG_len (s := s) (s.size + 1)
 exact ⟨⟨by show (splitG s (s.size + 1)).1.length ≤ _; omega,fun r hr => by have := splitG_size (s := s) (s.size + 1) r hr; show r.size ≤ _; omega⟩,by show (splitG s (s.size + 1)).1.length ≤ _; omega⟩
theorem lvD_ok (b : List UInt8) : levelOk (lvD b).1 = true ∧ Enc.gd (lvD b).1 ∧ (lvD b).1.Rows.length ≤ 1001 ∧ (lvD b).2.i ≤ b.length := by
 have r := Ye (b := b) (n := 5) (c := newCu b) (by omega)
 have hl := lv_ok (belowC b 5 (newCu b)).1.toNat (by omega)
 have h2 := splitG_ok hl.2
 exact ⟨hl.1,h2.1,h2.2,Yd (Nat.zero_le _)⟩
theorem nD_rng (b : List UInt8) : (0 ≤ (nD b).1 ∧ (nD b).1 < 4) ∧ (nD b).2.i ≤ b.length := ⟨Ye (by omega),Yd (lvD_ok b).2.2.2⟩
theorem sdD_rng (b : List UInt8) : (0 ≤ (sdD b).1 ∧ (sdD b).1 < 65536) ∧ (sdD b).2.i ≤ b.length := ⟨Ye (by omega),Yd (nD_rng b).2⟩
def dp4A : List (List Nat) := [[],[],[],[2],[0,1,2,3],[0,1,2,3,4],[0,1,2,3,4,5],[0,1,2,3,4,5],[],[0,1,2,3,4,5,6,8],[0,1,2,3,4,5,6,7,8,9]]
def dp4M : List (List Nat) := [[17,18,19,20,21,16,22,23,7,8],[17,18,19,20,21,16,22,23,7,8],[17,18,19,20,21,16,22,23,7,8],[17,18,19,20,21,16,22,23,7,8],[17,18,19,20,21,16,22,23,7,8],[17,18,19,20,21,16,22,23,7,8],[17,18,19,20,21,16,22,23,7,8],[17,18,19,20,21,16,22,23,7,8],[17,18,19,20,21,16,22,23,7,8],[17,18,19,20,21,16,22,23,7,8],[17,18,19,20,21,16,22,23,7,8]]
def dp5A : List (List Nat) := [[],[],[],[1,2],[0,1,2,3],[0,1,2,3,4]]
def dp5M : List (List Nat) := [[24,25,26,27,3],[24,25,26,27,3],[24,25,26,27,3],[24,25,26,27,3],[24,25,26,27,3],[24,25,26,27,3]]
theorem S_DrawPlay (b : List UInt8) (hb : b.length ≤ 1048576) : Con Tryz.prog 7 [] [al b] (ownO (Enc.e (newWorld (lvD b).1 (plN b) (sdD b).1))) (.tu [.ag (ownV 0 (Enc.e (newWorld (lvD b).1 (plN b) (sdD b).1))),.c (.rd [] (sl (plRows b)))]) := by
 have k1 := S_l01New b hb
 have k2 := S_l02Level b (newCu b) hb (Nat.zero_le _)
 have hl := lvD_ok b
 have r3 := nD_rng b
 have r4 := sdD_rng b
 have k3 := X5 b 4 (lvD b).2 hb hl.2.2.2 (by omega)
 have k4 := X5 b 65536 (nD b).2 hb r3.2 (by omega)
 have hn : 1 ≤ plN b ∧ plN b ≤ 4 := by unfold plN; omega
 have k5 := S_NewWorld (lvD b).1 (plN b) (sdD b).1 hl.2.1 (by omega) hl.1 hn (Y0.2 (by omega))
 have k6 := S_l02Rows b (plN b) 24 (sdD b).2 hb r4.2 (by omega) (by omega)
 have hnn : 1 + (nD b).1 = ((plN b : Nat) : Int) := by unfold plN; omega
 change Con _ _ _ _ [cub b (lvD b).2,.gh 0 (.c (.ptr 0 0)),.row 1 (els (lvD b).1.Rows)] _ at k2
 change Con _ _ _ _ [cub b (nD b).2,.gh 0 (.c (.ptr 0 0))] (I (nD b).1) at k3
 change Con _ _ _ _ [cub b (sdD b).2,.gh 0 (.c (.ptr 0 0))] (I (sdD b).1) at k4
 change Con _ _ _ _ _ (.o (.c (.rd [] (sl (plRows b))))) at k6
 generalize (drawRows b (plN b) 24 (sdD b).2).2 = c5 at k6
 generalize plRows b = rows at k6 ⊢
 generalize lvD b = p1 at k2 k3 k5 hl ⊢
 generalize nD b = p2 at k3 k4 r3 hnn
 generalize sdD b = p3 at k4 k5 k6 r4 ⊢
 generalize plN b = n at k5 k6 hn hnn ⊢
 obtain ⟨l,c2⟩ := p1
 obtain ⟨x,c3⟩ := p2
 obtain ⟨seed,c4⟩ := p3
 simp only at k2 k3 k4 k5 k6 hl r3 r4 hnn ⊢
 obtain ⟨W,hW⟩ : ∃ W,W = newWorld l n seed := ⟨_,rfl⟩
 rw [← hW] at k5 ⊢
 refine Con.of Tryz.func7 J Tryz.ntmps7 J (fun E => ?_)
 refine Wz [4,18,2,7] ?_;refine X4 (lo := []) (gs := []) (lo' := []) (new := [_]) [] [] (k1) J J J J J J J J J J J J J J J J J ?_;refine Wz [2,7] ?_;refine AL.weak (st' := (⟨_,[(2,.o (.c (.ptr 0 0))),(4,.o (.c (.ptr 1 0))),(11,.o (.c (.ptr 1 0)))],[.box [nilV,jn 0,jn 0,nilV,nilV],cub b (newCu b)]⟩ : St)) (X7 [0,1] (by kernel_rfl)) ?_;refine X4 (lo := [_]) (gs := [(0,.c (.ptr 0 0))]) (lo' := [_]) (new := [_]) [1] [(0,0,.ptr 0 0)] (k2) J J J J J J J J J J J J J J J J J ?_;refine Wz [18,37,7] ?_;refine AL.weak (st' := (⟨_,[(2,.o (.c (.ptr 0 0))),(4,.o (.c (.ptr 1 0))),(5,.o (.c (.ptr 3 0))),(13,.o (.c (.ptr 1 0)))],[.box [nilV,jn 0,jn 0,nilV,nilV],cub b c2,.row 1 (els l.Rows),.box [.ref 2]]⟩ : St)) (X7 [0,1,2,3] (by kernel_rfl)) ?_;refine X4 (lo := [_]) (gs := [(0,.c (.ptr 0 0))]) (lo' := [_]) (new := []) [1] [(0,0,.ptr 0 0)] (k3) J J J J J J J J J J J J J J J J J ?_;refine Wz [71,22] ?_
 refine AWP.pre (st' := (⟨_,[(2,.o (.c (.ptr 0 0))),(4,.o (.c (.ptr 1 0))),(5,.o (.c (.ptr 3 0))),(6,I n)],[.box [nilV,jn 0,jn 0,nilV,nilV],cub b c3,.row 1 (els l.Rows),.box [.ref 2]]⟩ : St)) ?_ (X8 [0,1,2,3] (by decide) J (by kernel_rfl) (.c J (.c J (.c J (.cons (Xy hnn) (.nil))))))
 refine A_seqW ⟨28,[(2,.o (.c (.ptr 0 0))),(4,.o (.c (.ptr 1 0))),(6,I n),(7,.o (.c (.ptr 2 0)))],[.box [nilV,jn 0,jn 0,nilV,nilV],cub b c4,.box [.ref 3,jn W.Tick,jn W.Seed,.ref 4,.ref 5],.row 1 (els W.Level.Rows),.row 1 (els W.Scores),.row 9 (els W.Bodies)]⟩ ?_ ?_
 ·
  refine A_drawn (f := 11) J J ?_;refine DAL.mv dp4A [] dp4M 1 _ 18 (by kernel_rfl) J J J J ?_;refine DAL.mv dp4A [] dp4M 2 _ 19 (by kernel_rfl) J J J J ?_
  refine DAL.three 0 3 8 (by kernel_rfl) J J J ?_ ?_ ?_
  ·
   refine Wz [27,1] ?_
   refine DAL.two 3 8 (by kernel_rfl) J J ?_ ?_
   ·
    refine X4 (lo := [_]) (gs := [(0,.c (.ptr 0 0))]) (lo' := [_]) (new := []) [1] [(0,0,.ptr 0 0)] (k4) J J J J J J J J J J J J J J J J J ?_;refine Wz [1] ?_
    refine DAL.two 4 8 (by kernel_rfl) J J ?_ ?_
    ·
     refine M1 (Zk J J (k5) J J J) J J ?_;refine Wz [1] ?_;refine DAL.mv dp4A [] dp4M 5 _ 16 (by kernel_rfl) J J J J ?_;refine DAL.ext dp4A [] dp4M 6 _ 22 (by kernel_rfl) J J J J J J ?_;refine DAL.ext dp4A [] dp4M 7 _ 23 (by kernel_rfl) J J J J J J ?_;refine DAL.one 8 (by kernel_rfl) J ?_;refine Wz [18,1,128,37,156,2] ?_
     refine DAL.nil (by kernel_rfl) (Q0 ?_)
     exact X7 [0,1,7,4,5,6] (by kernel_rfl)
    ·
     refine Wz [18,1,157] ?_;refine M1 (Zk J J (k5) J J J) J J ?_;refine Wz [1] ?_;refine DAL.mv dp4A [] dp4M 5 _ 16 (by kernel_rfl) J J J J ?_;refine DAL.ext dp4A [] dp4M 6 _ 22 (by kernel_rfl) J J J J J J ?_;refine DAL.ext dp4A [] dp4M 7 _ 23 (by kernel_rfl) J J J J J J ?_;refine Wz [128,37,156,2] ?_
     refine DAL.nil (by kernel_rfl) (Q0 ?_)
     exact X7 [0,1,4,5,6,7] (by kernel_rfl)
   ·
    refine Wz [18,1] ?_;refine DAL.one 3 (by kernel_rfl) J ?_;refine X4 (lo := [_]) (gs := [(0,.c (.ptr 0 0))]) (lo' := [_]) (new := []) [1] [(0,0,.ptr 0 0)] (k4) J J J J J J J J J J J J J J J J J ?_;refine Wz [1,157] ?_;refine M1 (Zk J J (k5) J J J) J J ?_;refine Wz [1] ?_;refine DAL.mv dp4A [] dp4M 5 _ 16 (by kernel_rfl) J J J J ?_;refine DAL.ext dp4A [] dp4M 6 _ 22 (by kernel_rfl) J J J J J J ?_;refine DAL.ext dp4A [] dp4M 7 _ 23 (by kernel_rfl) J J J J J J ?_;refine Wz [128,37,156,2] ?_
    refine DAL.nil (by kernel_rfl) (Q0 ?_)
    exact X7 [0,1,4,5,6,7] (by kernel_rfl)
  ·
   refine X4 (lo := [_]) (gs := [(0,.c (.ptr 0 0))]) (lo' := [_]) (new := []) [1] [(0,0,.ptr 0 0)] (k4) J J J J J J J J J J J J J J J J J ?_;refine Wz [1] ?_
   refine DAL.two 0 8 (by kernel_rfl) J J ?_ ?_
   ·
    refine Wz [27,1] ?_
    refine DAL.two 4 8 (by kernel_rfl) J J ?_ ?_
    ·
     refine M1 (Zk J J (k5) J J J) J J ?_;refine Wz [1] ?_;refine DAL.mv dp4A [] dp4M 5 _ 16 (by kernel_rfl) J J J J ?_;refine DAL.ext dp4A [] dp4M 6 _ 22 (by kernel_rfl) J J J J J J ?_;refine DAL.ext dp4A [] dp4M 7 _ 23 (by kernel_rfl) J J J J J J ?_;refine DAL.one 8 (by kernel_rfl) J ?_;refine Wz [18,1,128,37,156,2] ?_
     refine DAL.nil (by kernel_rfl) (Q0 ?_)
     exact X7 [0,1,7,4,5,6] (by kernel_rfl)
    ·
     refine Wz [18,1,157] ?_;refine M1 (Zk J J (k5) J J J) J J ?_;refine Wz [1] ?_;refine DAL.mv dp4A [] dp4M 5 _ 16 (by kernel_rfl) J J J J ?_;refine DAL.ext dp4A [] dp4M 6 _ 22 (by kernel_rfl) J J J J J J ?_;refine DAL.ext dp4A [] dp4M 7 _ 23 (by kernel_rfl) J J J J J J ?_;refine Wz [128,37,156,2] ?_
     refine DAL.nil (by kernel_rfl) (Q0 ?_)
     exact X7 [0,1,4,5,6,7] (by kernel_rfl)
   ·
    refine Wz [18,1] ?_;refine DAL.one 0 (by kernel_rfl) J ?_;refine Wz [27,1,157] ?_;refine M1 (Zk J J (k5) J J J) J J ?_;refine Wz [1] ?_;refine DAL.mv dp4A [] dp4M 5 _ 16 (by kernel_rfl) J J J J ?_;refine DAL.ext dp4A [] dp4M 6 _ 22 (by kernel_rfl) J J J J J J ?_;refine DAL.ext dp4A [] dp4M 7 _ 23 (by kernel_rfl) J J J J J J ?_;refine Wz [128,37,156,2] ?_
    refine DAL.nil (by kernel_rfl) (Q0 ?_)
    exact X7 [0,1,4,5,6,7] (by kernel_rfl)
  ·
   refine Wz [18,1] ?_
   refine DAL.two 0 3 (by kernel_rfl) J J ?_ ?_
   ·
    refine Wz [27,1] ?_;refine DAL.one 3 (by kernel_rfl) J ?_;refine X4 (lo := [_]) (gs := [(0,.c (.ptr 0 0))]) (lo' := [_]) (new := []) [1] [(0,0,.ptr 0 0)] (k4) J J J J J J J J J J J J J J J J J ?_;refine Wz [1,157] ?_;refine M1 (Zk J J (k5) J J J) J J ?_;refine Wz [1] ?_;refine DAL.mv dp4A [] dp4M 5 _ 16 (by kernel_rfl) J J J J ?_;refine DAL.ext dp4A [] dp4M 6 _ 22 (by kernel_rfl) J J J J J J ?_;refine DAL.ext dp4A [] dp4M 7 _ 23 (by kernel_rfl) J J J J J J ?_;refine Wz [128,37,156,2] ?_
    refine DAL.nil (by kernel_rfl) (Q0 ?_)
    exact X7 [0,1,4,5,6,7] (by kernel_rfl)
   ·
    refine X4 (lo := [_]) (gs := [(0,.c (.ptr 0 0))]) (lo' := [_]) (new := []) [1] [(0,0,.ptr 0 0)] (k4) J J J J J J J J J J J J J J J J J ?_;refine Wz [1] ?_;refine DAL.one 0 (by kernel_rfl) J ?_;refine Wz [27,1,157] ?_;refine M1 (Zk J J (k5) J J J) J J ?_;refine Wz [1] ?_;refine DAL.mv dp4A [] dp4M 5 _ 16 (by kernel_rfl) J J J J ?_;refine DAL.ext dp4A [] dp4M 6 _ 22 (by kernel_rfl) J J J J J J ?_;refine DAL.ext dp4A [] dp4M 7 _ 23 (by kernel_rfl) J J J J J J ?_;refine Wz [128,37,156,2] ?_
    refine DAL.nil (by kernel_rfl) (Q0 ?_)
    exact X7 [0,1,4,5,6,7] (by kernel_rfl)
 refine Qd ?_
 refine A_seqW ⟨28,[(2,.o (.c (.ptr 0 0))),(3,.o (.c (.rd [] (sl rows))))],[.box [.ref 3,jn W.Tick,jn W.Seed,.ref 4,.ref 5],cub b c5,.box [.ref 3,jn W.Tick,jn W.Seed,.ref 4,.ref 5],.row 1 (els W.Level.Rows),.row 1 (els W.Scores),.row 9 (els W.Bodies)]⟩ ?_ ?_
 ·
  refine A_drawn (f := 6) J J ?_;refine DAL.mv dp5A [] dp5M 1 _ 25 (by kernel_rfl) J J J J ?_;refine DAL.mv dp5A [] dp5M 2 _ 26 (by kernel_rfl) J J J J ?_
  refine DAL.two 0 3 (by kernel_rfl) J J ?_ ?_
  ·
   refine Wz [27,1] ?_;refine DAL.one 3 (by kernel_rfl) J ?_;refine X4 (lo := [_]) (gs := [(0,.c (.ptr 0 0))]) (lo' := [_]) (new := []) [1] [(0,0,.ptr 0 0)] (k6) J J J J J J J J J J J J J J J J J ?_;refine Wz [1,157,37] ?_;refine DAL.one 5 (by kernel_rfl) J ?_;refine Wz [2] ?_
   refine DAL.nil (by kernel_rfl) (Q0 ?_)
   exact X7 [0,1,2,3,4,5] (by kernel_rfl)
  ·
   refine X4 (lo := [_]) (gs := [(0,.c (.ptr 0 0))]) (lo' := [_]) (new := []) [1] [(0,0,.ptr 0 0)] (k6) J J J J J J J J J J J J J J J J J ?_;refine Wz [1] ?_;refine DAL.one 0 (by kernel_rfl) J ?_;refine Wz [27,1,157,37] ?_;refine DAL.one 5 (by kernel_rfl) J ?_;refine Wz [2] ?_
   refine DAL.nil (by kernel_rfl) (Q0 ?_)
   exact X7 [0,1,2,3,4,5] (by kernel_rfl)
 refine Wz [67] ?_
 exact Xm J J J J J (X6 [3,4,5] (by decide) J J J)
end
section
open Go.RowKit

theorem L_big (b : List UInt8) : Con Tryz.prog 6 [] [al b] [] (B (decide (b.length > 1048576))) := by
 have hl := Ym b
 refine Con.of Tryz.func6 J Tryz.ntmps6 J (fun E => ?_)
 refine Wz [11,7,12] ?_;refine zx (q_gtr J J J J) J ?_;refine Wz [34] ?_
 exact Xn J J (X6 [] (by decide) J J (Xj (by rw [hl]; exact decide_eq_decide.2 (by omega))))
def atM (b : List UInt8) (i : Int) : Int := if b.length = 0 then 0 else ((b.getD ((i * 5 + 1) % (b.length : Int)).toNat 0).toNat : Int)
theorem atM_rng (b : List UInt8) (i : Int) : 0 ≤ atM b i ∧ atM b i ≤ 255 := by
 unfold atM
 split
 ·omega
 ·have := (b.getD ((i * 5 + 1) % (b.length : Int)).toNat 0).toNat_lt; omega
theorem L_at (b : List UInt8) (i : Int) (hi : 0 ≤ i ∧ i ≤ 1000000) (hb : b.length ≤ 1048576) : Con Tryz.prog 8 [] [al b,ai i] [] (I (atM b i)) := by
 have hl := Ym b
 by_cases h0 : b.length = 0
 ·have f0 : decide (((els b).length : Int) = 0) = true := decide_eq_true (by omega)
  rw [atM,if_pos h0]
  refine Con.of Tryz.func8 J Tryz.ntmps8 J (fun E => ?_)
  refine Wz [11,28,12,19,9,55] ?_
  exact Xn J J (X6 [] (by decide) J J J)
 ·have f0 : decide (((els b).length : Int) = 0) = false := decide_eq_false (by omega)
  have hm : 0 ≤ (i * 5 + 1) % ((els b).length : Int) ∧ (i * 5 + 1) % ((els b).length : Int) < ((els b).length : Int) := ⟨Int.emod_nonneg _ (by omega),Int.emod_lt_of_pos _ (by omega)⟩
  rw [atM,if_neg h0]
  rw [hl] at hm
  have hk : ((i * 5 + 1) % (b.length : Int)).toNat < b.length := by omega
  have hy : b[((i * 5 + 1) % (b.length : Int)).toNat]? = some (b.getD ((i * 5 + 1) % (b.length : Int)).toNat 0) := by rw [List.getD_eq_getElem?_getD,List.getElem?_eq_getElem hk]; rfl
  have he := byte_at hy
  rw [Int.toNat_natCast,← hl] at he
  rw [← hl] at hm ⊢
  generalize b.getD ((i * 5 + 1) % ((els b).length : Int)).toNat 0 = y at he ⊢
  have hy1 : (y.toNat : Int) ≤ 255 := by have := y.toNat_lt; omega
  have hy0 : 0 ≤ (y.toNat : Int) := by omega
  refine Con.of Tryz.func8 J Tryz.ntmps8 J (fun E => ?_)
  refine Wz [11,28,12,19,35,39,92,71,0,12,122,61,135,34] ?_
  exact Xn J J (X6 [] (by decide) J J J)
theorem plRows_ok (b : List UInt8) : (plRows b).length ≤ 96 ∧ ∀ r ∈ plRows b,r.length = plN b ∧ ∀ x ∈ r,0 ≤ x ∧ x ≤ 15 := by
 have h1 := Ye (b := b) (n := 24) (c := (sdD b).2) (by omega)
 have h2 := rowsC_len (b := b) (n := plN b) (c := (belowC b 24 (sdD b).2).2) (belowC b 24 (sdD b).2).1.toNat
 refine ⟨?_,fun r hr => rowsC_all _ r hr⟩
 show (rowsC b (plN b) _ _).1.length ≤ 96
 omega
theorem play_rd (b : List UInt8) {e : Nat} (he : 1 ≤ e ∧ e ≤ 100) : RD (lvD b).1 (plN b) (sdD b).1 e (plRows b) := by
 have hl := lvD_ok b
 have hn := nD_rng b
 have hs := sdD_rng b
 have hr := plRows_ok b
 refine ⟨hl.1,hl.2.1,by omega,by unfold plN; omega,Y0.2 (by omega),he,by omega,fun r hm => ?_⟩
 obtain ⟨h1,h2⟩ := hr.2 r hm
 have h3 : inOk r = true := List.all_eq_true.2 fun x hx => Y0.2 (h2 x hx)
 simp only [rowOk,h1,h3,Bool.and_true,decide_eq_true_eq,Bool.and_eq_true,and_true]
/-! ### Lockstep worlds -/
section
variable {l : TLevel} {n : Nat} {seed : Int} {e : Nat} {rows : List (List Int)}
theorem Y3 {t : Nat} {r : List Int} (h : rows[t]? = some r) : stepW (lockW l n seed rows t) r = lockW l n seed rows (t + 1) := by
 rw [lockW,lockW,List.take_add_one,h,Option.toList_some,runM_app]
 rfl
end
end
section
open Go.RowKit

section
variable {l : TLevel} {n : Nat} {seed : Int} {rows : List (List Int)} {f : TFault} {W : Nat → TWorld}
structure WS (l : TLevel) (n : Nat) (seed : Int) (rows : List (List Int)) (f : TFault) (W : Nat → TWorld) : Prop where
 w0 : W 0 = newWorld l n seed
 ok : ∀ t,t ≤ rows.length → worldOk (W t) = true
 tk : ∀ t,t ≤ rows.length → (W t).Tick = t
 lv : ∀ t,t ≤ rows.length → (W t).Level = l
 sn : ∀ t,t ≤ rows.length → (W t).Scores.length = n
 wi : ∀ t,t ≤ rows.length → WorIn (W t)
 st : ∀ t r,rows[t]? = some r → stepF (W t) r f = W (t + 1)
 sl_ : ∀ t r,rows[t]? = some r → (stepW (W t) r).Scores.length = n
 ss : ∀ t r,rows[t]? = some r → ∀ s ∈ (stepW (W t) r).Scores,0 ≤ s ∧ s ≤ 1000000
 sv : ∀ t r,rows[t]? = some r → (stepW (W t) r).Level = l
theorem lock_len {e : Nat} (h : RD l n seed e rows) {t : Nat} (ht : t ≤ rows.length) : (lockW l n seed rows t).Tick = t := by
 rw [(h.good t).2.1,List.length_take]; omega
theorem ws_plain {e : Nat} (h : RD l n seed e rows) : WS l n seed rows ⟨0,0,0⟩ (lockW l n seed rows) where
 w0 := lockW_zero
 ok t _ := (h.good t).1
 tk t ht := lock_len h ht
 lv t _ := (h.good t).2.2.1
 sn t _ := (h.good t).2.2.2
 wi t _ := h.in_ t
 st t r hr := by
  have hlt := Yx hr
  rw [stepF,Y3 hr,if_neg]
  rintro ⟨_,h1,_⟩
  rw [lock_len h (by omega)] at h1
  have h2 : ((t + 1 : Nat) : Int) = 0 := h1
  omega
 sl_ t r hr := by rw [Y3 hr]; exact (h.good _).2.2.2
 ss t r hr := by rw [Y3 hr]; exact Z8 (h.good _).1
 sv t r hr := by rw [Y3 hr]; exact (h.good _).2.2.1
noncomputable def lockQ (l : TLevel) (n : Nat) (seed : Int) (rows : List (List Int)) (F P : Nat) (A : Int) (t : Nat) : TWorld := if t < F then lockW l n seed rows t else plusW (lockW l n seed rows t) P A
theorem plus_in {w : TWorld} {P : Nat} {a c : Int} (h : WorIn w) (hP : P < w.Scores.length) (hc : ∀ x ∈ w.Scores,x ≤ c) (h0 : ∀ x ∈ w.Scores,0 ≤ x) (ha : 0 ≤ a) (hb : c + a ≤ 1000000) : WorIn (plusW w P a) := by
 obtain ⟨⟨a1,a2,a3,a4,a5⟩,h1,h2,h3⟩ := h
 refine ⟨⟨a1,a2,a3,⟨by show (plusL _ _ _).length ≤ _; rw [Zd]; exact a4.1,fun x hx => ?_⟩,a5⟩,h1,by show (plusL _ _ _).length ≤ _; rw [Zd]; exact h2,h3⟩
 rcases List.mem_or_eq_of_mem_set hx with h4 | h4
 ·exact a4.2 x h4
 ·rw [List.getD_eq_getElem?_getD,List.getElem?_eq_getElem hP,Option.getD_some] at h4
  have h5 := hc _ (List.getElem_mem hP)
  have h6 := h0 _ (List.getElem_mem hP)
  exact ⟨by omega,by omega⟩
theorem ws_fault {e : Nat} (h : RD l n seed e rows) {F P A : Nat} (hF : 1 ≤ F ∧ F ≤ 400) (hP : P < n) (hA : 1 ≤ A ∧ A ≤ 9) : WS l n seed rows ⟨F,P,A⟩ (lockQ l n seed rows F P A) := by
 have hsc := h.score
 have hfo : ∀ w : TWorld,w.Scores.length = n → faultOk ⟨F,P,A⟩ w.Scores.length = true := fun w hw => by
  rw [hw,faultOk,Y0.2 (show (0 : Int) ≤ F ∧ (F : Int) ≤ 400 by omega),Y0.2 (show (0 : Int) ≤ A ∧ (A : Int) ≤ 9 by omega),decide_eq_true (show (0 : Int) ≤ P by omega),decide_eq_true (show (P : Int) < n by omega)]
  rfl
 have hQ : ∀ t,lockQ l n seed rows F P A t = lockW l n seed rows t ∨ lockQ l n seed rows F P A t = plusW (lockW l n seed rows t) P A := fun t => by
  unfold lockQ
  by_cases h1 : t < F
  ·exact .inl (if_pos h1)
  ·exact .inr (if_neg h1)
 have hn : ∀ t,(lockW l n seed rows t).Scores.length = n := fun t => (h.good t).2.2.2
 have hstep : ∀ t r,rows[t]? = some r → stepW (lockQ l n seed rows F P A t) r = if t < F then lockW l n seed rows (t + 1) else plusW (lockW l n seed rows (t + 1)) P A := fun t r hr => by
  unfold lockQ
  by_cases h1 : t < F
  ·rw [if_pos h1,if_pos h1,Y3 hr]
  ·rw [if_neg h1,if_neg h1,stepW_plus (h.in_ t).gd (h.good t).1 (by rw [hn]; exact hP) (hsc t) (by omega) (by omega),Y3 hr]
 have hgood : ∀ t r,rows[t]? = some r → (stepW (lockQ l n seed rows F P A t) r).Scores.length = n ∧ worldOk (stepW (lockQ l n seed rows F P A t) r) = true ∧ (stepW (lockQ l n seed rows F P A t) r).Level = l ∧ (stepW (lockQ l n seed rows F P A t) r).Tick = ((t + 1 : Nat) : Int) := fun t r hr => by
  have hlt := Yx hr
  rw [hstep t r hr]
  split
  ·exact ⟨hn _,(h.good _).1,(h.good _).2.2.1,lock_len h (by omega)⟩
  ·exact ⟨by show (plusL _ _ _).length = _; rw [Zd]; exact hn _,plus_ok (h.good _).1 (by rw [hn]; exact hP) (hsc _) (by omega) (by omega),(h.good _).2.2.1,lock_len h (by omega)⟩
 have htk : ∀ t,t ≤ rows.length → (lockQ l n seed rows F P A t).Tick = t := fun t ht => by
  rcases hQ t with h1 | h1
  ·rw [h1]; exact lock_len h ht
  ·rw [h1]; exact lock_len h ht
 have hsn : ∀ t,(lockQ l n seed rows F P A t).Scores.length = n := fun t => by
  rcases hQ t with h1 | h1
  ·rw [h1]; exact hn t
  ·rw [h1]; show (plusL _ _ _).length = _; rw [Zd]; exact hn t
 refine ⟨by rw [lockQ,if_pos (by omega)]; exact lockW_zero,fun t _ => ?_,htk,fun t _ => ?_,fun t _ => hsn t,fun t _ => ?_,fun t r hr => ?_,fun t r hr => (hgood t r hr).1,fun t r hr => Z8 (hgood t r hr).2.1,fun t r hr => (hgood t r hr).2.2.1⟩
 ·rcases hQ t with h1 | h1
  ·rw [h1]; exact (h.good t).1
  ·rw [h1]; exact plus_ok (h.good t).1 (by rw [hn]; exact hP) (hsc t) (by omega) (by omega)
 ·rcases hQ t with h1 | h1
  ·rw [h1]; exact (h.good t).2.2.1
  ·rw [h1]; exact (h.good t).2.2.1
 ·rcases hQ t with h1 | h1
  ·rw [h1]; exact h.in_ t
  ·rw [h1]; exact plus_in (h.in_ t) (by rw [hn]; exact hP) (hsc t) (fun x hx => (Z8 (h.good t).1 x hx).1) (by omega) (by omega)
 ·have hlt := Yx hr
  have hg := hgood t r hr
  rw [stepF]
  by_cases h1 : t + 1 = F
  ·rw [if_pos ⟨hfo _ (hsn t),by rw [hg.2.2.2,h1],by rw [hg.2.2.2,htk t (by omega)]; omega⟩,hstep t r hr,if_pos (by omega),lockQ,if_neg (by omega)]
   have h2 := hsc (t + 1)
   have h3 : P < (lockW l n seed rows (t + 1)).Scores.length := by rw [hn]; exact hP
   have h4 := h2 _ (List.getElem_mem h3)
   unfold faultS plusW plusL
   simp only [Int.toNat_natCast,List.getD_eq_getElem?_getD,List.getElem?_eq_getElem h3,Option.getD_some]
   rw [show min ((lockW l n seed rows (t + 1)).Scores[P] + (A : Int)) 1000000 = (lockW l n seed rows (t + 1)).Scores[P] + (A : Int) by omega]
  ·rw [if_neg (fun q => h1 (by have := q.2.1; rw [hg.2.2.2] at this; have h5 : ((t + 1 : Nat) : Int) = (F : Int) := this; omega)),hstep t r hr,lockQ]
   by_cases h2 : t < F
   ·rw [if_pos h2,if_pos (by omega)]
   ·rw [if_neg h2,if_neg (by omega)]
end
end
section
open Go.RowKit

theorem Wk.nilrd {st : St} {p i k : Nat} {cs : List V1} (hp : st.objs[p]? = some (.box cs)) (hc : cs[i]? = some nv) : Wk st ⟨st.n,st.tmps,st.objs.set p (.box (cs.set i (.rd [] (.sl k []))))⟩ :=
 Wk.cell hp hc fun w H F a u h hu => by
  obtain ⟨rfl,_⟩ := RO.plain hu
  exact RO.nil none k 0 (Nat.zero_le _)
def tr0 (k : Nat) : List TTrack := List.replicate k ⟨[]⟩
theorem tr0_next (k : Nat) : els (tr0 (k + 1)) = els (tr0 k) ++ [[.sl 1 []]] := by
 rw [tr0,List.replicate_succ',els,List.map_append]
 rfl
noncomputable def newPe (w : TWorld) (n : Nat) (me ah seed : Int) (f : TFault) : TPeer := ⟨me,0,ah,seed,tr0 n,w,w,[],[],[wsum w],f,0,0⟩
theorem I_NewPeer (l : TLevel) (n : Nat) (seed me ah : Int) (f : TFault) (hg : Enc.gd l) (hL : l.Rows.length ≤ 1048576) (hl : levelOk l = true) (hn : 1 ≤ n ∧ n ≤ 4) (hs : inR seed 0 65535 = true) (hi : WorIn (newWorld l n seed)) (gp : Enc.gd (newPe (newWorld l n seed) n me ah seed f)) (ok : peerOk (newPe (newWorld l n seed) n me ah seed f) = true) :
  Con Tryz.prog 9 [] [ag l,ai n,ai seed,ai me,ai 0,ai ah,ag f] (.row 1 (els (tr0 n)) :: wR (newWorld l n seed) (wR (newWorld l n seed) [.row 1 (els [wsum (newWorld l n seed)])])) (.tu [.ag (pX (newPe (newWorld l n seed) n me ah seed f) (.ref 0) (.ref 1) (.ref 2) (.ref 3) (.ref 4) (.ref 5) (.ref 6) (sr ([] : List (List Int))) (sr ([] : List TSave)) (.ref 7)),.c (bv true)]) := by
 have c1 := I_NewWorld l n seed hg hL hl hn hs
 have c2 := Xw 0 0 5
 rw [show inR 0 0 5 = true from rfl] at c2
 have hlv : (newWorld l n seed).Level = l := rfl
 have hsd : (newWorld l n seed).Seed = seed := rfl
 obtain ⟨w,hw⟩ : ∃ w,newWorld l n seed = w := ⟨_,rfl⟩
 rw [hw] at c1 hi gp ok hlv hsd ⊢
 have c3 := Xx w hi.gd hi.h1 hi.h2 hi.h3
 have c4 := I_WorldSum w hi.gd
 have c5 := Xs _ gp
 rw [ok] at c5
 refine Con.of Tryz.func9 J Tryz.ntmps9 J (fun E => ?_)
 refine Wz [26,79,18,2,15,0,0] ?_;refine M1 (Zk J J (c1) J J J) J J ?_;refine Wz [88,42,42,18,40,56,14,16] ?_;refine zx (Qj J J (c2) J) J ?_;refine Wz [6,14,8,60,70] ?_
 refine AWP.pre (st' := (⟨_,[(1,I n),(2,I seed),(3,I me),(4,I 0),(5,I ah),(7,.o (.c (.ptr 0 0))),(13,.o (.c (.ptr 1 0))),(14,.o (.c (.ptr 2 0))),(15,B false),(16,.o (.c (.ptr 6 0)))],[.box [sr l.Rows],.box [jn f.Tick,jn f.Player,jn f.Add],.box zP,.row 1 (els w.Level.Rows),.row 1 (els w.Scores),.row 9 (els w.Bodies),.box [.ref 3,jn w.Tick,jn w.Seed,.ref 4,.ref 5]]⟩ : St)) ?_ (X8 [0,1,2,3,4,5,6] (by decide) J ((by kernel_rfl)) (.c J (.c J (.c J (.c J (.c J (.c J (.c J (.c J (.c J (.c J (.nil))))))))))))
 refine Xh [[],[],[],[],[],[],[5],[],(u9 8),[],(u9 10)] [[],[],[],[],[],[],[40],[],[35,36,37,38,39,40,41,42],[],[18,35,36,37,38,39,40,41,42,43]] [[18,36,37,38,39,40,41,42],[18,35,37,38,39,40,41,42],[18,35,36,38,39,40,41,42],[18,35,36,37,39,40,41,42],[18,35,36,37,38,40,41,42],[18,35,36,37,38,39,42],[18,35,36,37,38,39,42],[18,35,36,37,38,39,40,41],[18],[35,36,37,38,39,40,41,42,43],[]] J ?_;refine Wz [3,3,3,3,100,100] ?_;refine DR.s (Zk J J (c3) J J J) J J ?_;refine DR.s (Qu J J J J J J) J J ?_;refine DR.s (x := .o (.ag [jn me,jn 0,jn ah,jn seed,nv,.ref 3,jn w.Tick,jn w.Seed,.ref 4,.ref 5,.ref 7,jn w.Tick,jn w.Seed,.ref 8,.ref 9,nv,nv,nv,jn f.Tick,jn f.Player,jn f.Add,jn 0,jn 0])) (Zh J J J J (by kernel_rfl)) J J ?_;refine DR.s (Qx J J J) J J (DR.stop (by kernel_rfl) (by kernel_rfl) ?_);refine AL.weak (st' := (⟨_,[(1,I n),(4,I 0),(14,.o (.c (.ptr 2 0))),(15,B false),(16,.o (.c (.ptr 6 0))),(18,.o (.c (.ptr 10 0))),(43,.o (.ag [jn me,jn 0,jn ah,jn seed,nv,.ref 3,jn w.Tick,jn w.Seed,.ref 4,.ref 5,.ref 7,jn w.Tick,jn w.Seed,.ref 8,.ref 9,nv,nv,nv,jn f.Tick,jn f.Player,jn f.Add,jn 0,jn 0]))],[.box [sr l.Rows],.box [jn f.Tick,jn f.Player,jn f.Add],.box zP,.row 1 (els w.Level.Rows),.row 1 (els w.Scores),.row 9 (els w.Bodies),.box [.ref 3,jn w.Tick,jn w.Seed,.ref 4,.ref 5],.row 1 (els w.Level.Rows),.row 1 (els w.Scores),.row 9 (els w.Bodies),.box zP]⟩ : St)) (X8 [0,1,2,3,4,5,6,7,8,9,10] (by decide) J ((by kernel_rfl)) (.c J (.c J (.c J (.c J (.c J (.c J (.c J (.nil))))))))) ?_;refine Wz [37] ?_
 refine AWP.pre (st' := (⟨_,[(1,I n),(4,I 0),(14,.o (.c (.ptr 2 0))),(15,B false),(16,.o (.c (.ptr 6 0))),(18,.o (.c (.ptr 10 0)))],[.box [sr l.Rows],.box [jn f.Tick,jn f.Player,jn f.Add],.box zP,.row 1 (els w.Level.Rows),.row 1 (els w.Scores),.row 9 (els w.Bodies),.box [.ref 3,jn w.Tick,jn w.Seed,.ref 4,.ref 5],.row 1 (els w.Level.Rows),.row 1 (els w.Scores),.row 9 (els w.Bodies),.box (pX (newPe w n me ah seed f) nv (.ref 3) (.ref 4) (.ref 5) (.ref 7) (.ref 8) (.ref 9) nv nv nv)]⟩ : St)) ?_ (X8 [0,1,2,3,4,5,6,7,8,9,10] (by decide) J ((by kernel_rfl)) (.c J (.c J (.c J (.c J (.c J (.c J (.nil))))))))
 refine Wz [20,11,13] ?_
 refine AWP.pre ?_ (Wk.nilbox (p := 10) (i := 4) 1 J J)
 refine Xi (fun m st => ∃ k : Nat,k + m = n ∧ (True) ∧ st = (⟨_,[(1,I n),(4,I 0),(14,.o (.c (.ptr 2 0))),(15,B false),(16,.o (.c (.ptr 6 0))),(18,.o (.c (.ptr 10 0))),(19,I k)],[.box [sr l.Rows],.box [jn f.Tick,jn f.Player,jn f.Add],.box zP,.row 1 (els w.Level.Rows),.row 1 (els w.Scores),.row 9 (els w.Bodies),.box [.ref 3,jn w.Tick,jn w.Seed,.ref 4,.ref 5],.row 1 (els w.Level.Rows),.row 1 (els w.Scores),.row 9 (els w.Bodies),.box (pX (newPe w n me ah seed f) (.ref 11) (.ref 3) (.ref 4) (.ref 5) (.ref 7) (.ref 8) (.ref 9) nv nv nv),.row 1 (els (tr0 k))]⟩ : St)) (n) ⟨_,⟨0,by omega,trivial,J⟩,X7 [0,1,2,3,4,5,6,7,8,9,10,11] (by kernel_rfl)⟩ ?_
 rintro m_A _ ⟨k,hk_A,hp_A,rfl⟩
 have hlk : (els (tr0 k)).length = k := by rw [Ym]; simp [tr0]
 by_cases h3 : k < n
 ·have f3 : decide ((k : Int) < (n : Int)) = true := decide_eq_true (by omega)
  refine Wz [36,10,9,29] ?_;refine Xh [[],[0],[],[2],[2,3],[2,3,4],(u9 6),(u9 7),(u9 8)] [[],[49],[],[51],[51,52],[51,52,53],[49,50,51,52,53,54],[49,50,51,52,53,54,55],[49,50,51,52,53,54,55,56]] [[51,52,53,54],[51,52,53,54],[49,50],[49,50],[49,50],[49,50],[],[],[]] J ?_;refine Wz [33,3] ?_;refine DR.s (q_make 1 J J J J (by omega) (by omega) (by omega) J (by decide)) J J ?_;refine DR.s (Zh J J J J J) J J ?_;refine Wz [168,31] ?_;refine AL.weak (st' := (⟨_,[(1,I n),(4,I 0),(14,.o (.c (.ptr 2 0))),(15,B false),(16,.o (.c (.ptr 6 0))),(18,.o (.c (.ptr 10 0))),(19,I k),(50,.o (.c (.ref 11))),(54,.o (.c (.sb 13 1 1)))],[.box [sr l.Rows],.box [jn f.Tick,jn f.Player,jn f.Add],.box zP,.row 1 (els w.Level.Rows),.row 1 (els w.Scores),.row 9 (els w.Bodies),.box [.ref 3,jn w.Tick,jn w.Seed,.ref 4,.ref 5],.row 1 (els w.Level.Rows),.row 1 (els w.Scores),.row 9 (els w.Bodies),.box (pX (newPe w n me ah seed f) (.ref 11) (.ref 3) (.ref 4) (.ref 5) (.ref 7) (.ref 8) (.ref 9) nv nv nv),.row 1 (els (tr0 k)),.row 1 [],.box [.ref 12]]⟩ : St)) (X8 [0,1,2,3,4,5,6,7,8,9,10,11,12,13] (by decide) J ((by kernel_rfl)) (.c J (.c J (.c J (.c J (.c J (.c J (.c J (.c J (.c J (.nil))))))))))) ?_;refine Xz J J J J J J J J J J J J J J (by omega) (by omega) ?_
  refine AL.weak (st' := (⟨_,[(1,I n),(4,I 0),(14,.o (.c (.ptr 2 0))),(15,B false),(16,.o (.c (.ptr 6 0))),(18,.o (.c (.ptr 10 0))),(19,I k),(55,.o (.c (.ref 11)))],[.box [sr l.Rows],.box [jn f.Tick,jn f.Player,jn f.Add],.box zP,.row 1 (els w.Level.Rows),.row 1 (els w.Scores),.row 9 (els w.Bodies),.box [.ref 3,jn w.Tick,jn w.Seed,.ref 4,.ref 5],.row 1 (els w.Level.Rows),.row 1 (els w.Scores),.row 9 (els w.Bodies),.box (pX (newPe w n me ah seed f) .un (.ref 3) (.ref 4) (.ref 5) (.ref 7) (.ref 8) (.ref 9) nv nv nv),.row 1 (els (tr0 (k + 1)))]⟩ : St)) (X8 [0,1,2,3,4,5,6,7,8,9,10,11] (by decide) J ((by rw [tr0_next]; kernel_rfl)) (.c J (.c J (.c J (.c J (.c J (.c J (.c J (.c J (.nil)))))))))) ?_
  refine Wz [41] ?_;refine AL.weak (st' := (⟨_,[(1,I n),(4,I 0),(14,.o (.c (.ptr 2 0))),(15,B false),(16,.o (.c (.ptr 6 0))),(18,.o (.c (.ptr 10 0))),(19,I k)],[.box [sr l.Rows],.box [jn f.Tick,jn f.Player,jn f.Add],.box zP,.row 1 (els w.Level.Rows),.row 1 (els w.Scores),.row 9 (els w.Bodies),.box [.ref 3,jn w.Tick,jn w.Seed,.ref 4,.ref 5],.row 1 (els w.Level.Rows),.row 1 (els w.Scores),.row 9 (els w.Bodies),.box (pX (newPe w n me ah seed f) (.ref 11) (.ref 3) (.ref 4) (.ref 5) (.ref 7) (.ref 8) (.ref 9) nv nv nv),.row 1 (els (tr0 (k + 1)))]⟩ : St)) (X8 [0,1,2,3,4,5,6,7,8,9,10,11] (by decide) J ((by kernel_rfl)) (.c J (.c J (.c J (.c J (.c J (.c J (.c J (.nil))))))))) ?_;refine Wz [74,50] ?_
  exact ⟨n - (k + 1),by omega,_,⟨k + 1,by omega,trivial,J⟩,X7 [0,1,2,3,4,5,6,7,8,9,10,11] (by kernel_rfl)⟩
 have f3 : decide ((k : Int) < (n : Int)) = false := decide_eq_false (by omega)
 have hkn : k = n := by omega
 subst hkn
 refine Wz [36,10,60,32,15] ?_;refine AL.weak (st' := (⟨_,[(14,.o (.c (.ptr 2 0))),(15,B false),(18,.o (.c (.ptr 10 0))),(57,.o (.ag [.ref 3,jn w.Tick,jn w.Seed,.ref 4,.ref 5]))],[.box [sr l.Rows],.box [jn f.Tick,jn f.Player,jn f.Add],.box zP,.row 1 (els w.Level.Rows),.row 1 (els w.Scores),.row 9 (els w.Bodies),.box [.ref 3,jn w.Tick,jn w.Seed,.ref 4,.ref 5],.row 1 (els w.Level.Rows),.row 1 (els w.Scores),.row 9 (els w.Bodies),.box (pX (newPe w k me ah seed f) (.ref 11) (.ref 3) (.ref 4) (.ref 5) (.ref 7) (.ref 8) (.ref 9) nv nv nv),.row 1 (els (tr0 k))]⟩ : St)) (X8 [0,1,2,3,4,5,6,7,8,9,10,11] (by decide) J ((by kernel_rfl)) (.c J (.c J (.c J (.c J (.nil)))))) ?_;refine zx (Qj J J (c4) J) J ?_;refine Wz [54,41] ?_;refine AL.weak (st' := (⟨_,[(14,.o (.c (.ptr 2 0))),(15,B false),(18,.o (.c (.ptr 10 0)))],[.box [sr l.Rows],.box [jn f.Tick,jn f.Player,jn f.Add],.box zP,.row 1 (els w.Level.Rows),.row 1 (els w.Scores),.row 9 (els w.Bodies),.box [.ref 3,jn w.Tick,jn w.Seed,.ref 4,.ref 5],.row 1 (els w.Level.Rows),.row 1 (els w.Scores),.row 9 (els w.Bodies),.box (pX (newPe w k me ah seed f) (.ref 11) (.ref 3) (.ref 4) (.ref 5) (.ref 7) (.ref 8) (.ref 9) nv nv (.sb 12 1 1)),.row 1 (els (tr0 k)),.box [jn (wsum w)]]⟩ : St)) (X8 [0,1,2,3,4,5,6,7,8,9,10,11,12] (by decide) J ((by kernel_rfl)) (.c J (.c J (.c J (.nil))))) ?_;refine AL.weak (Wk.sbrow (q := 12) (es := els [wsum w]) J J (Nat.le_of_ble_eq_true J)) ?_;refine AL.weak (Wk.nilrd (p := 10) (i := 15) (k := 1) J J) ?_;refine AL.weak (Wk.nilrd (p := 10) (i := 16) (k := 2) J J) ?_;refine AL.weak (st' := (⟨_,[(14,.o (.c (.ptr 2 0))),(15,B false),(18,.o (.c (.ptr 10 0)))],[.box [sr l.Rows],.box [jn f.Tick,jn f.Player,jn f.Add],.box zP,.row 1 (els w.Level.Rows),.row 1 (els w.Scores),.row 9 (els w.Bodies),.box [.ref 3,jn w.Tick,jn w.Seed,.ref 4,.ref 5],.row 1 (els w.Level.Rows),.row 1 (els w.Scores),.row 9 (els w.Bodies),.box (pX (newPe w k me ah seed f) (.ref 11) (.ref 3) (.ref 4) (.ref 5) (.ref 7) (.ref 8) (.ref 9) (sr ([] : List (List Int))) (sr ([] : List TSave)) (.ref 12)),.row 1 (els (tr0 k)),.row 1 (els [wsum w])]⟩ : St)) (X8 [0,1,2,3,4,5,6,7,8,9,10,11,12] (by decide) J ((by kernel_rfl)) (.c J (.c J (.c J (.nil))))) ?_;refine Wz [21,15] ?_;refine AL.weak (st' := (⟨_,[(14,.o (.c (.ptr 2 0))),(15,B false),(18,.o (.c (.ptr 10 0))),(61,.o (.ag (pX (newPe w k me ah seed f) (.ref 11) (.ref 3) (.ref 4) (.ref 5) (.ref 7) (.ref 8) (.ref 9) (sr ([] : List (List Int))) (sr ([] : List TSave)) (.ref 12))))],[.box [sr l.Rows],.box [jn f.Tick,jn f.Player,jn f.Add],.box zP,.row 1 (els w.Level.Rows),.row 1 (els w.Scores),.row 9 (els w.Bodies),.box [.ref 3,jn w.Tick,jn w.Seed,.ref 4,.ref 5],.row 1 (els w.Level.Rows),.row 1 (els w.Scores),.row 9 (els w.Bodies),.box (pX (newPe w k me ah seed f) (.ref 11) (.ref 3) (.ref 4) (.ref 5) (.ref 7) (.ref 8) (.ref 9) (sr ([] : List (List Int))) (sr ([] : List TSave)) (.ref 12)),.row 1 (els (tr0 k)),.row 1 (els [wsum w])]⟩ : St)) (X8 [0,1,2,3,4,5,6,7,8,9,10,11,12] (by decide) J ((by kernel_rfl)) (.c J (.c J (.c J (.c J (.nil)))))) ?_;refine zx (Qj J J (c5) J) J ?_;refine AL.weak (st' := (⟨_,[(14,.o (.c (.ptr 2 0))),(15,B false),(18,.o (.c (.ptr 10 0))),(62,B true)],[.box [sr l.Rows],.box [jn f.Tick,jn f.Player,jn f.Add],.box zP,.row 1 (els w.Level.Rows),.row 1 (els w.Scores),.row 9 (els w.Bodies),.box [.ref 3,jn w.Tick,jn w.Seed,.ref 4,.ref 5],.row 1 (els w.Level.Rows),.row 1 (els w.Scores),.row 9 (els w.Bodies),.box (pX (newPe w k me ah seed f) (.ref 11) (.ref 3) (.ref 4) (.ref 5) (.ref 7) (.ref 8) (.ref 9) (sr ([] : List (List Int))) (sr ([] : List TSave)) (.ref 12)),.row 1 (els (tr0 k)),.row 1 (els [wsum w])]⟩ : St)) (X8 [0,1,2,3,4,5,6,7,8,9,10,11,12] (by decide) J ((by kernel_rfl)) (.c J (.c J (.c J (.c J (.nil)))))) ?_
 refine zn J ?_; repeat (first | refine Qe ?_ | refine Q0 ?_ | refine Qd ?_ | refine Ql J ?_ | refine Qh ?_ | refine Qc ?_)
 refine z4 J J J ?_;refine AL.weak (st' := (⟨_,[(14,.o (.c (.ptr 2 0))),(15,B false),(65,.o (.ag (pX (newPe w k me ah seed f) (.ref 11) (.ref 3) (.ref 4) (.ref 5) (.ref 7) (.ref 8) (.ref 9) (sr ([] : List (List Int))) (sr ([] : List TSave)) (.ref 12))))],[.box [sr l.Rows],.box [jn f.Tick,jn f.Player,jn f.Add],.box zP,.row 1 (els w.Level.Rows),.row 1 (els w.Scores),.row 9 (els w.Bodies),.box [.ref 3,jn w.Tick,jn w.Seed,.ref 4,.ref 5],.row 1 (els w.Level.Rows),.row 1 (els w.Scores),.row 9 (els w.Bodies),.box (pX (newPe w k me ah seed f) (.ref 11) (.ref 3) (.ref 4) (.ref 5) (.ref 7) (.ref 8) (.ref 9) (sr ([] : List (List Int))) (sr ([] : List TSave)) (.ref 12)),.row 1 (els (tr0 k)),.row 1 (els [wsum w])]⟩ : St)) (X8 [0,1,2,3,4,5,6,7,8,9,10,11,12] (by decide) J ((by kernel_rfl)) (.c J (.c J (.c J (.nil))))) ?_;refine Qy J J J J J J J J J ?_;refine AL.weak (st' := (⟨_,[(14,.o (.c (.ptr 2 0))),(15,B false)],[.box [sr l.Rows],.box [jn f.Tick,jn f.Player,jn f.Add],.box (pX (newPe w k me ah seed f) (.ref 11) (.ref 3) (.ref 4) (.ref 5) (.ref 7) (.ref 8) (.ref 9) (sr ([] : List (List Int))) (sr ([] : List TSave)) (.ref 12)),.row 1 (els w.Level.Rows),.row 1 (els w.Scores),.row 9 (els w.Bodies),.box [.ref 3,jn w.Tick,jn w.Seed,.ref 4,.ref 5],.row 1 (els w.Level.Rows),.row 1 (els w.Scores),.row 9 (els w.Bodies),.box (pX (newPe w k me ah seed f) (.ref 11) (.ref 3) (.ref 4) (.ref 5) (.ref 7) (.ref 8) (.ref 9) (sr ([] : List (List Int))) (sr ([] : List TSave)) (.ref 12)),.row 1 (els (tr0 k)),.row 1 (els [wsum w])]⟩ : St)) (X8 [0,1,2,3,4,5,6,7,8,9,10,11,12] (by decide) J ((by kernel_rfl)) (.c J (.c J (.nil)))) ?_;refine Wz [34] ?_
 exact Xm (cs := pX (newPe w k me ah seed f) (.ref 11) (.ref 3) (.ref 4) (.ref 5) (.ref 7) (.ref 8) (.ref 9) (sr ([] : List (List Int))) (sr ([] : List TSave)) (.ref 12)) J J J J J (X6 [11,3,4,5,7,8,9,12] (by decide) J (by kernel_rfl) (by kernel_rfl))
end
section
open Go.RowKit

section
variable {l : TLevel} {n : Nat} {seed : Int} {rows : List (List Int)} {f : TFault} {W : Nat → TWorld} {t u k j : Nat}
def colK (rows : List (List Int)) (t k j : Nat) : TTrack := ⟨colM (rows.take (if j < k then t + 1 else t)) j⟩
def trK (rows : List (List Int)) (n t k : Nat) : List TTrack := (List.range n).map (colK rows t k)
theorem Ke : (trK rows n t k).length = n := by simp [trK]
theorem trK_at (h : j < n) : (trK rows n t k)[j]'(by rw [Ke]; exact h) = colK rows t k j := by simp [trK]
theorem trK_mem {y : TTrack} (h : y ∈ trK rows n t k) : ∃ j,j < n ∧ y = colK rows t k j := by
 obtain ⟨j,hj,rfl⟩ := List.mem_map.1 h
 exact ⟨j,List.mem_range.1 hj,J⟩
theorem trK_n : trK rows n t n = trK rows n (t + 1) 0 := List.map_congr_left fun j hj => by
 have := List.mem_range.1 hj
 rw [colK,colK,if_pos this,if_neg (Nat.not_lt_zero _)]
theorem trK_zero : trK rows n 0 0 = tr0 n := by
 rw [trK,tr0]
 refine List.ext_getElem (by simp) fun j h1 h2 => ?_
 simp [colK,colM]
theorem colK_len (h : t + 1 ≤ rows.length) : (colK rows t k j).Inputs.length = if j < k then t + 1 else t := by
 rw [colK,colM_len,List.length_take]
 split <;> omega
theorem col0_len (h : t ≤ rows.length) : (colK rows t 0 j).Inputs.length = t := by
 rw [colK,if_neg (Nat.not_lt_zero _),colM_len,List.length_take]; omega
theorem colM_in (hr : ∀ r ∈ rows,rowOk r (n : Int) = true) (hj : j < n) {u : Nat} : ∀ x ∈ colM (rows.take u) j,0 ≤ x ∧ x ≤ 15 := fun x hx => by
 obtain ⟨r,h1,rfl⟩ := List.mem_map.1 hx
 have h2 := hr r (List.mem_of_mem_take h1)
 rw [rowOk,Bool.and_eq_true,decide_eq_true_eq] at h2
 rw [List.getD_eq_getElem?_getD,List.getElem?_eq_getElem (by omega)]
 exact Y0.1 (List.all_eq_true.1 h2.2 _ (List.getElem_mem _))
theorem trK_ok (hr : ∀ r ∈ rows,rowOk r (n : Int) = true) (hn : 1 ≤ n ∧ n ≤ 4) (hL : rows.length ≤ 400) : tracksOk (trK rows n t k) = true := by
 refine tracks_yes (by rw [Ke]; exact hn.1) (by rw [Ke]; exact hn.2) (List.all_eq_true.2 fun y hy => ?_)
 obtain ⟨j,hj,rfl⟩ := trK_mem hy
 rw [trackOk,Bool.and_eq_true,decide_eq_true_eq]
 refine ⟨?_,List.all_eq_true.2 fun x hx => Y0.2 (colM_in hr hj x hx)⟩
 rw [colK,colM_len,List.length_take]; omega
theorem trK_gd (hr : ∀ r ∈ rows,rowOk r (n : Int) = true) (hn : 1 ≤ n ∧ n ≤ 4) (hL : rows.length ≤ 400) : Enc.gd (trK rows n t k) := by
 refine ⟨by rw [Ke]; omega,fun y hy => ?_⟩
 obtain ⟨j,hj,rfl⟩ := trK_mem hy
 refine ⟨by rw [colK,colM_len,List.length_take]; omega,fun x hx => ?_⟩
 have := colM_in hr hj x hx
 exact ⟨by omega,by omega⟩
theorem trK_known (hr : ∀ r ∈ rows,rowOk r (n : Int) = true) (hn : 1 ≤ n ∧ n ≤ 4) (hL : rows.length ≤ 400) (ht : t ≤ rows.length) : t ≤ knownTicks (trK rows n t 0) := by
 rw [knownTicks,if_pos (trK_ok hr hn hL)]
 cases t with
 | zero => exact Nat.zero_le _
 | succ t =>
  refine least_gt (fun y hy => ?_) (by rw [Ke]; exact hn.1) _ (Nat.le_refl _)
  obtain ⟨j,hj,rfl⟩ := trK_mem hy
  rw [col0_len ht]; omega
theorem trK_kn (ht : u < t) (hl : t ≤ rows.length) : ∀ y ∈ trK rows n t 0,u < y.Inputs.length := fun y hy => by
 obtain ⟨j,hj,rfl⟩ := trK_mem hy
 rw [col0_len hl]; exact ht
theorem trK_row (hr : ∀ r ∈ rows,rowOk r (n : Int) = true) {r : List Int} (h : rows[u]? = some r) (ht : u < t) (hl : t ≤ rows.length) : rowAt (trK rows n t 0) u = r := by
 have hn := hr r (List.mem_of_getElem? h)
 rw [rowOk,Bool.and_eq_true,decide_eq_true_eq] at hn
 have hrl : r.length = n := by omega
 refine List.ext_getElem (by rw [rowAt,List.length_map,Ke,hrl]) fun j h1 h2 => ?_
 simp only [rowAt,List.getElem_map]
 rw [trK_at (by omega),colK,if_neg (Nat.not_lt_zero _),inAt]
 simp only [colM,List.getD_eq_getElem?_getD,List.getElem?_map]
 rw [List.getElem?_take_of_lt ht,h]
 simp [h2]
theorem trK_set {r : List Int} (h : rows[t]? = some r) (hk : k < n) : (trK rows n t k).set k ⟨(colK rows t k k).Inputs ++ [r.getD k 0]⟩ = trK rows n t (k + 1) := by
 refine List.ext_getElem (by rw [List.length_set,Ke,Ke]) fun j h1 h2 => ?_
 rw [Ke] at h2
 rw [List.getElem_set]
 by_cases hj : k = j
 ·subst hj
  rw [if_pos rfl,trK_at h2,colK,colK,if_neg (Nat.lt_irrefl _),if_pos (Nat.lt_succ_self _),List.take_add_one,h]
  simp [colM]
 ·rw [if_neg hj,trK_at h2,trK_at h2,colK,colK]
  by_cases hjk : j < k
  ·rw [if_pos hjk,if_pos (by omega)]
  ·rw [if_neg hjk,if_neg (by omega)]
noncomputable def peT (rows : List (List Int)) (n : Nat) (seed me ah : Int) (f : TFault) (W : Nat → TWorld) (t u k : Nat) : TPeer := ⟨me,0,ah,seed,trK rows n u k,W t,W t,[],[],(List.range (t + 1)).map fun j => wsum (W j),f,0,0⟩
theorem wsum_rng (w : TWorld) : 0 ≤ wsum w ∧ wsum w < 4294967296 := checksum_lt _
structure PW (l : TLevel) (n : Nat) (seed : Int) (rows : List (List Int)) (f : TFault) (W : Nat → TWorld) (me : Nat) (ah : Int) : Prop where
 ws : WS l n seed rows f W
 hr : ∀ r ∈ rows,rowOk r (n : Int) = true
 hn : 1 ≤ n ∧ n ≤ 4
 hL : rows.length ≤ 400
 hs : inR seed 0 65535 = true
 hm : me < n
 ha : 1 ≤ ah ∧ ah ≤ 8
 hf : faultOk f n = true
 ll : l.Rows.length ≤ 1048576
variable {me : Nat} {ah : Int}
theorem sums_gd (W : Nat → TWorld) (h : t ≤ 400) : Enc.gd ((List.range (t + 1)).map fun j => wsum (W j)) := ⟨by simp; omega,fun x hx => by
 obtain ⟨j,_,rfl⟩ := List.mem_map.1 hx
 have := wsum_rng (W j)
 exact ⟨by omega,by omega⟩⟩
theorem PW.fgd (h : PW l n seed rows f W me ah) : Enc.gd f := by
 have hf := h.hf
 have hn := h.hn
 unfold faultOk at hf
 simp only [Bool.and_eq_true,decide_eq_true_eq,Y0] at hf
 obtain ⟨⟨⟨a1,a2⟩,a3⟩,a4⟩ := hf
 exact ⟨⟨by omega,by omega⟩,⟨by omega,by omega⟩,⟨by omega,by omega⟩⟩
theorem PW.inn (h : PW l n seed rows f W me ah) {s : Nat} (ht : t ≤ rows.length) (hs : s ≤ rows.length) {us : List (List Int)} {sv : List TSave} (hu : us.length ≤ 1 ∧ ∀ r ∈ us,r ∈ rows) (hv : sv.length ≤ 1) (gv : Enc.gd sv) : PeerIn ⟨me,0,ah,seed,trK rows n u k,W t,W s,us,sv,(List.range (t + 1)).map fun j => wsum (W j),f,0,0⟩ := by
 have hL := h.hL
 have hn := h.hn
 have hm := h.hm
 have ha := h.ha
 have hse := Y0.1 h.hs
 have w1 := h.ws.wi t ht
 have w2 := h.ws.wi s hs
 have hrl : ∀ r ∈ rows,r.length ≤ 1000 ∧ Enc.gd r := fun r hr => by
  have h1 := h.hr r hr
  rw [rowOk,Bool.and_eq_true,decide_eq_true_eq] at h1
  refine ⟨by omega,by omega,fun x hx => ?_⟩
  have := Y0.1 (List.all_eq_true.1 h1.2 x hx)
  exact ⟨by omega,by omega⟩
 have zI : Enc.gd (0 : Int) := ⟨by decide,by decide⟩
 have gu : Enc.gd us := ⟨by omega,fun r hr => (hrl r (hu.2 r hr)).2⟩
 refine ⟨⟨⟨by show _ ≤ (me : Int); omega,by show (me : Int) ≤ _; omega⟩,zI,⟨by show _ ≤ ah; omega,by show ah ≤ _; omega⟩,⟨by show _ ≤ seed; omega,by show seed ≤ _; omega⟩,trK_gd h.hr hn hL,w1.gd,w2.gd,gu,gv,sums_gd W (by omega),h.fgd,zI,zI⟩,⟨?_,?_⟩,⟨w1.h1,w1.h2,w1.h3⟩,⟨w2.h1,w2.h2,w2.h3⟩,⟨?_,?_⟩,?_,?_⟩
 ·show (trK rows n u k).length ≤ _; rw [Ke]; omega
 ·intro y hy
  obtain ⟨j,hj,rfl⟩ := trK_mem hy
  rw [colK,colM_len,List.length_take]; omega
 ·show us.length ≤ _; omega
 ·intro r hr; have := (hrl r (hu.2 r hr)).1; omega
 ·show sv.length ≤ _; omega
 ·show ((List.range (t + 1)).map _).length ≤ _; simp; omega
theorem PW.ok (h : PW l n seed rows f W me ah) {s : Nat} (hts : t ≤ s) (hsu : s ≤ u) (hu1 : u ≤ rows.length) (hd : s - t ≤ 1) {us : List (List Int)} {sv : List TSave} (hu : us.length = s - t ∧ ∀ r ∈ us,r ∈ rows) (hv : sv.length = s - t ∧ ∀ k (h : k < sv.length),sv[k].Tick = (t : Int) + k) : peerOk ⟨me,0,ah,seed,trK rows n u 0,W t,W s,us,sv,(List.range (t + 1)).map fun j => wsum (W j),f,0,0⟩ = true := by
 have hL := h.hL
 have hn := h.hn
 have hm := h.hm
 have ha := h.ha
 have hse := Y0.1 h.hs
 have hln : (trK rows n u 0).length = n := Ke
 have k1 := h.ws.tk t (by omega)
 have k2 := h.ws.tk s (by omega)
 have z5 : (0 : Int) ≤ 0 ∧ (0 : Int) ≤ 5 := by omega
 have z6 : (0 : Int) ≤ 0 ∧ (0 : Int) ≤ 1000000 := by omega
 have hkn := trK_known (n := n) h.hr hn hL hu1
 have hcl : lenAt (trK rows n u 0) me = u := by
  rw [lenAt_is (by rw [hln]; exact hm),trK_at hm,col0_len hu1]
 refine peer_T ⟨⟨trK_ok h.hr hn hL,h.ws.ok t (by omega),h.ws.ok s (by omega),by show (W t).Level = (W s).Level; rw [h.ws.lv t (by omega),h.ws.lv s (by omega)]⟩,⟨?_,?_,?_⟩,⟨⟨?_,?_⟩,z5,ha⟩,⟨hse,z6,z6⟩,⟨⟨?_,?_⟩,?_,?_⟩,⟨?_,?_⟩,?_,?_,?_⟩
 ·show (W t).Scores.length = _; rw [h.ws.sn t (by omega)]; exact hln.symm
 ·show (W s).Scores.length = _; rw [h.ws.sn s (by omega)]; exact hln.symm
 ·show faultOk f ((trK rows n u 0).length : Int) = true; rw [hln]; exact h.hf
 ·show (0 : Int) ≤ me; omega
 ·show (me : Int) ≤ ((trK rows n u 0).length : Int) - 1; omega
 ·show 0 ≤ (W s).Tick - (W t).Tick; omega
 ·show (W s).Tick - (W t).Tick ≤ ah; omega
 ·show (us.length : Int) = (W s).Tick - (W t).Tick; omega
 ·show (sv.length : Int) = (W s).Tick - (W t).Tick; omega
 ·refine List.all_eq_true.2 fun r hr => ?_
  show rowOk r ((trK rows n u 0).length : Int) = true
  rw [hln]; exact h.hr r (hu.2 r hr)
 ·intro k hk
  show sv[k].Tick = (W t).Tick + k
  rw [k1]; exact hv.2 k hk
 ·show (W t).Tick ≤ ((knownTicks (trK rows n u 0) : Nat) : Int); omega
 ·show (W s).Tick ≤ ((lenAt (trK rows n u 0) ((me : Int)).toNat : Nat) : Int)
  rw [show ((me : Int)).toNat = me by omega,hcl]; omega
 ·show (((List.range (t + 1)).map _).length : Int) = (W t).Tick + 1
  rw [k1,List.length_map,List.length_range]; omega
end
end
section
open Go.RowKit

section
variable {p : TPeer}
end
end
section
open Go.RowKit

def acksOk (l : List Int) : Bool := l.all fun n => inR n 0 400
def tailOk (x : TPacket) : Bool := ((((inR x.First 0 (400 - (x.Inputs.length : Int)) && inR x.Tick 0 400) && inR x.SumTick 0 400) && inR x.Sum 0 274877906943) && inR x.Time 0 1000000) && inR x.Echo 0 1000000
def PacketP (x : TPacket) : Prop := (1 ≤ x.Acks.length ∧ x.Acks.length ≤ 4) ∧ acksOk x.Acks = true ∧ (0 ≤ x.From ∧ x.From ≤ (x.Acks.length : Int) - 1) ∧ x.Inputs.length ≤ 40 ∧ inOk x.Inputs = true ∧ tailOk x = true
noncomputable def packetOk (x : TPacket) : Bool := @decide (PacketP x) (Classical.propDecidable _)
theorem packet_T {p : TPacket} (h : PacketP p) : packetOk p = true := @decide_eq_true _ (Classical.propDecidable _) h
theorem packet_F {p : TPacket} (h : ¬ PacketP p) : packetOk p = false := @decide_eq_false _ (Classical.propDecidable _) h
theorem packet_spec {p : TPacket} (h : packetOk p = true) : PacketP p := @of_decide_eq_true _ (Classical.propDecidable _) h
theorem packet_end {x : TPacket} (h1 : 1 ≤ x.Acks.length ∧ x.Acks.length ≤ 4) (h2 : acksOk x.Acks = true) (h3 : 0 ≤ x.From ∧ x.From ≤ (x.Acks.length : Int) - 1) (h4 : x.Inputs.length ≤ 40) (h5 : inOk x.Inputs = true) : tailOk x = packetOk x := by
 cases h : tailOk x with
 | true => rw [packet_T ⟨h1,h2,h3,h4,h5,h⟩]
 | false => rw [packet_F fun hp => by have := hp.2.2.2.2.2; rw [h] at this; cases this]
theorem I_PacketOk (x : TPacket) (hg : Enc.gd x) : Con Tryz.prog 58 [] [ag x] [] (B (packetOk x)) := by
 obtain ⟨g1,g2,g3,gI,gA,g6,g7,g8,g9⟩ := hg
 have hla := Ym x.Acks
 have hli := Ym x.Inputs
 have gA1 := gA.1
 have gI1 := gI.1
 have ci := I_inputsOk x.Inputs gI
 refine Con.of Tryz.func58 J Tryz.ntmps58 J (fun E => ?_)
 refine Wz [26,22,5,12,48,0,86,94,159] ?_;refine zx (Qt.grdF J J J (.hit (.hit (.hit .stop))) (fun hgrd => q_gtr J J J J)) J ?_;refine Wz [43,1] ?_
 refine Xb J (fun h => ?_) (fun h => ?_)
 ·simp only [Bool.or_eq_true,decide_eq_true_eq] at h
  rw [packet_F (fun hp => by have := hp.1; omega)]
  refine Wz [55] ?_
  exact Xn J J (X6 [] (by decide) J J J)
 simp only [Bool.or_eq_false_iff,decide_eq_false_iff_not] at h
 refine Wz [70,5,12,78,13] ?_;refine Xi (fun m st => ∃ k : Nat,k + m = x.Acks.length ∧ ((x.Acks.take k).all (fun n => inR n 0 400) = true) ∧ st = (⟨_,[(1,.o (.c (.ptr 0 0))),(16,L x.Acks),(17,I (els x.Acks).length),(18,I k)],[.box ((Enc.e x).map (V1.rd []))]⟩ : St)) (x.Acks.length) ⟨_,⟨0,by omega,by simp,J⟩,X7 [0] (by kernel_rfl)⟩ ?_
 rintro m_A _ ⟨k,hk_A,hp_A,rfl⟩
 refine Wz [4,48,21] ?_
 refine Xb J (fun h2 => ?_) (fun h2 => ?_)
 ·have h3 : k < x.Acks.length := by have := of_decide_eq_true h2; omega
  have hat := Yl h3
  have hc := Xw x.Acks[k] 0 400
  cases ho : inR x.Acks[k] 0 400 with
  | false =>
   rw [ho] at hc
   rw [packet_F (fun hp => by have := hp.2.1; rw [acksOk,all_no h3 ho] at this; cases this)]
   refine Wz [29,4,61,2,7] ?_;refine zx (Qj J J (hc) J) J ?_;refine Wz [14,9,62,63,25] ?_
   exact Xn J J (X6 [] (by decide) J J J)
  | true =>
   rw [ho] at hc
   refine Wz [29,4,61,2,7] ?_;refine zx (Qj J J (hc) J) J ?_;refine Wz [14,45,38] ?_
   exact ⟨x.Acks.length - (k + 1),by omega,_,⟨k + 1,by omega,all_next hp_A h3 ho,J⟩,X7 [0] (by kernel_rfl)⟩
 have h3 : ¬ ((k : Int) < (els x.Acks).length) := of_decide_eq_false h2
 have hall := all_end hp_A (by omega)
 refine Wz [32,20,5,17,12,73] ?_;refine zx (Qj J J (Xw x.From 0 (((els x.Acks).length : Int) - 1)) J) J ?_;refine Wz [14,0,86,94,159] ?_;refine zx (Qt.grdF J J J (.hit (.hit (.hit .stop))) (fun hgrd => q_gtr J J J J)) J ?_;refine Wz [43,0,86,94] ?_;refine zx (Qt.grdF J J J (.hit (.hit .stop)) (fun hgrd => Qj J J (ci) J)) J ?_;refine Wz [126,43,1] ?_
 refine Xb J (fun h4 => ?_) (fun h4 => ?_)
 ·rw [hla,hli] at h4
  rw [packet_F (fun hp => by
   obtain ⟨_,_,b,c,d,_⟩ := hp
   rw [Y0.2 b,decide_eq_false (by omega),d] at h4; exact absurd h4 (by decide))]
  refine Wz [55] ?_
  exact Xn J J (X6 [] (by decide) J J J)
 rw [hla,hli] at h4
 simp only [Bool.or_eq_false_iff,Bool.not_eq_false',decide_eq_false_iff_not,Y0] at h4
 obtain ⟨⟨q1,q2⟩,q3⟩ := h4
 refine AWP.pre (st' := (⟨_,[(1,.o (.c (.ptr 0 0)))],[.box ((Enc.e x).map (V1.rd []))]⟩ : St)) ?_ (X7 [0] (by kernel_rfl))
 refine Wz [68,5,17,12,73] ?_;refine zx (Qj J J (Xw x.First 0 (400 - ((els x.Inputs).length : Int))) J) J ?_;refine Wz [0,98,99] ?_;refine zx (Qt.grdT J J J (.hit (.hit .stop)) (fun hgrd => Qj J J (Xw x.Tick 0 400) J)) J ?_;refine Wz [76,0,98,99] ?_;refine zx (Qt.grdT J J J (.hit (.hit .stop)) (fun hgrd => Qj J J (Xw x.SumTick 0 400) J)) J ?_;refine Wz [76,0,98,99] ?_;refine zx (Qt.grdT J J J (.hit (.hit .stop)) (fun hgrd => Qj J J (Xw x.Sum 0 274877906943) J)) J ?_;refine Wz [76,0,98,99] ?_;refine zx (Qt.grdT J J J (.hit (.hit .stop)) (fun hgrd => Qj J J (Xw x.Time 0 1000000) J)) J ?_;refine Wz [76,0,98,99] ?_;refine zx (Qt.grdT J J J (.hit (.hit .stop)) (fun hgrd => Qj J J (Xw x.Echo 0 1000000) J)) J ?_;refine Wz [76,34] ?_
 exact Xn J J (X6 [] (by decide) J J (Xj (by rw [hli]; exact packet_end (by omega) hall q1 (by omega) q3)))
noncomputable def suspects (p : TPeer) (x : TPacket) : Bool := ((peerOk p && packetOk x) && decide (x.SumTick < (p.Sums.length : Int))) && decide (p.Sums.getD x.SumTick.toNat 0 ≠ x.Sum)
theorem I_Suspects (p : TPeer) (x : TPacket) (gp : Enc.gd p) (gx : Enc.gd x) : Con Tryz.prog 14 [] [ag p,ag x] [] (B (suspects p x)) := by
 have hc := Xs p gp
 have hd := I_PacketOk x gx
 have hls := Ym p.Sums
 cases hop : peerOk p with
 | false =>
  rw [hop] at hc
  rw [show suspects p x = false by rw [suspects,hop]; rfl]
  refine Con.of Tryz.func14 J Tryz.ntmps14 J (fun E => ?_)
  refine Wz [26,79,22] ?_;refine Xh u8_33 u8_34 u8_35 J (DR.s (Qu J J J J J J) J J ?_);refine DR.s (Qj J J (hc) J) J J ?_;refine Wz [3,145,59,3,58,145,59,3,58,58,131,59,109,31,1,67] ?_
  exact Xn J J (X6 [] (by decide) J J J)
 | true =>
 rw [hop] at hc
 cases hox : packetOk x with
 | false =>
  rw [hox] at hd
  rw [show suspects p x = false by rw [suspects,hox,Bool.and_false]; rfl]
  refine Con.of Tryz.func14 J Tryz.ntmps14 J (fun E => ?_)
  refine Wz [26,79,22] ?_;refine Xh u8_33 u8_34 u8_35 J (DR.s (Qu J J J J J J) J J ?_);refine DR.s (Qj J J (hc) J) J J ?_;refine Wz [3,119] ?_;refine DR.s (Qt.yes J J J (Qj J J (hd) J)) J J ?_;refine Wz [65,3,58,145,59,3,58,58,131,59,109,31,1,67] ?_
  exact Xn J J (X6 [] (by decide) J J J)
 | true =>
 rw [hox] at hd
 have ht := (packet_spec hox).2.2.2.2.2
 simp only [tailOk,Bool.and_eq_true,Y0] at ht
 by_cases hs : x.SumTick < (p.Sums.length : Int)
 ·have hb1 : decide (x.SumTick < ((els p.Sums).length : Int)) = true := decide_eq_true (by omega)
  have hk : x.SumTick.toNat < p.Sums.length := by omega
  have hat := at_nat (xs := p.Sums) hk
  rw [show suspects p x = decide (p.Sums[x.SumTick.toNat] ≠ x.Sum) by rw [suspects,hop,hox,decide_eq_true hs]; simp [List.getD_eq_getElem?_getD,hk]]
  refine Con.of Tryz.func14 J Tryz.ntmps14 J (fun E => ?_)
  refine Wz [26,79,22] ?_;refine Xh u8_33 u8_34 u8_35 J (DR.s (Qu J J J J J J) J J ?_);refine DR.s (Qj J J (hc) J) J J ?_;refine Wz [3,119] ?_;refine DR.s (Qt.yes J J J (Qj J J (hd) J)) J J ?_;refine Wz [65,3,23,23,147] ?_;refine DR.s (Qt.yes J J J (Qr J J J J (by assumption))) J J ?_;refine Wz [65,3,23,23,103,127,23] ?_;refine DR.s (Qt.yes J J J (Zz J J J J)) J J ?_;refine Wz [65,109,31,1,67] ?_
  exact Xn J J (X6 [] (by decide) J J J)
 ·have hb1 : decide (x.SumTick < ((els p.Sums).length : Int)) = false := decide_eq_false (by omega)
  rw [show suspects p x = false by rw [suspects,decide_eq_false hs,Bool.and_false]; rfl]
  refine Con.of Tryz.func14 J Tryz.ntmps14 J (fun E => ?_)
  refine Wz [26,79,22] ?_;refine Xh u8_33 u8_34 u8_35 J (DR.s (Qu J J J J J J) J J ?_);refine DR.s (Qj J J (hc) J) J J ?_;refine Wz [3,119] ?_;refine DR.s (Qt.yes J J J (Qj J J (hd) J)) J J ?_;refine Wz [65,3,23,23,147] ?_;refine DR.s (Qt.yes J J J (Qr J J J J (by assumption))) J J ?_;refine Wz [65,3,58,58,131,59,109,31,1,67] ?_
  exact Xn J J (X6 [] (by decide) J J J)
end
end Go.Proofs.YtpmacgnmlmmojaaGreatDoor
