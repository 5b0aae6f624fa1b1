/-
  Rules, data and contracts of functions: part 33 of the proof.
  Conditions: those that each theorem names.
-/
import Derived.Test.YtoecjaohdnoenaaGreatDDLockRowk21
import Derived.Test.YtoecjaohdnoenaaGreatDDLockRowk31
set_option linter.unusedVariables false
set_option linter.unusedSimpArgs false
set_option maxRecDepth 8000
set_option maxHeartbeats 8000000
namespace Go.Proofs.YtoecjaohdnoenaaGreat
section
open Go.RowKit

@[reducible] def mX (x:TMatch) (a b c d e f g h i:V1):List V1 := [a,jn x.Seed,jn x.Delay,b,c,d,e,f,jn x.Clock,g,h,i,jn x.Bad]
@[reducible] def mC (x:TMatch) (n:Nat):List V1:=mX x (.ref n) (.ref (n+1)) (.ref (n+2)) (.ref (n+3)) (.ref (n+4)) (.ref (n+5)) (.ref (n+6)) (.ref (n+7)) (.ref (n+8))
@[reducible] def mR (x:TMatch) (l:List Ob):List Ob := .row 1 (els x.Level.Rows) :: .row 1 (els x.Scripts) :: .row 23 (els x.Peers) :: .row 1 (els x.Wires) :: .row 1 (els x.Paces) :: .row 1 (els x.Acks) :: .row 6 (els x.Watchers) :: .row 10 (els x.Lines) :: .row 2 (els x.Alarms)::l
end
section
open Go.RowKit

class Mkb (α:Type) [Enc α]:Prop where
 b:∀ (x:α) (k:Int),nkE (Enc.e x) k≤k+23+23*(Enc.wt x:Nat)
theorem Yw {α:Type} [Enc α] [Mkb α]:∀ (xs:List α) (k:Int),nkEs (els xs) k≤k+23*(xs.length:Nat)+23*(wts xs:Nat)
 | [],k=>by simp[els,nkEs,wts]
 |x::xs,k=>by
  have h1:=Mkb.b x k
  have h2:=Yw xs (nkE (Enc.e x) k)
  show nkEs (els xs) (nkE (Enc.e x) k)≤_
  simp only[Gxf,wts]
  omega
instance {α:Type} [Enc α] [Mkb α]:Mkb (List α):=⟨fun x k=>by
 have b1:=Yw x k
 have w1:Enc.wt x=x.length+wts x:=rfl
 show nkEs (els x) k≤_
 omega⟩
instance:Mkb ByteArray:=⟨fun x k=>by
 show k+1≤_
 omega⟩
instance:Mkb Int:=⟨fun x k=>by
 show k+1≤_
 omega⟩
instance:Mkb TBody:=⟨fun x k=>by
 show k+1+1+1+1+1+1+1+1+1≤_
 omega⟩
instance:Mkb TTrack:=⟨fun x k=>by
 have b1:=Yw x.Inputs (k)
 have w1:Enc.wt x.Inputs=x.Inputs.length+wts x.Inputs:=rfl
 have v0:Enc.wt x=Enc.wt x.Inputs:=rfl
 show nkEs (els x.Inputs) (k)≤_
 omega⟩
instance:Mkb TSave:=⟨fun x k=>by
 show k+1+1≤_
 omega⟩
instance:Mkb TPeer:=⟨fun x k=>by
 have b1:=Yw x.Tracks (k+1+1+1+1)
 have b2:=Yw x.Base.Level.Rows (nkEs (els x.Tracks) (k+1+1+1+1))
 have b3:=Yw x.Base.Scores (nkEs (els x.Base.Level.Rows) (nkEs (els x.Tracks) (k+1+1+1+1))+1+1)
 have b4:=Yw x.Base.Bodies (nkEs (els x.Base.Scores) (nkEs (els x.Base.Level.Rows) (nkEs (els x.Tracks) (k+1+1+1+1))+1+1))
 have b5:=Yw x.Now.Level.Rows (nkEs (els x.Base.Bodies) (nkEs (els x.Base.Scores) (nkEs (els x.Base.Level.Rows) (nkEs (els x.Tracks) (k+1+1+1+1))+1+1)))
 have b6:=Yw x.Now.Scores (nkEs (els x.Now.Level.Rows) (nkEs (els x.Base.Bodies) (nkEs (els x.Base.Scores) (nkEs (els x.Base.Level.Rows) (nkEs (els x.Tracks) (k+1+1+1+1))+1+1)))+1+1)
 have b7:=Yw x.Now.Bodies (nkEs (els x.Now.Scores) (nkEs (els x.Now.Level.Rows) (nkEs (els x.Base.Bodies) (nkEs (els x.Base.Scores) (nkEs (els x.Base.Level.Rows) (nkEs (els x.Tracks) (k+1+1+1+1))+1+1)))+1+1))
 have b8:=Yw x.Used (nkEs (els x.Now.Bodies) (nkEs (els x.Now.Scores) (nkEs (els x.Now.Level.Rows) (nkEs (els x.Base.Bodies) (nkEs (els x.Base.Scores) (nkEs (els x.Base.Level.Rows) (nkEs (els x.Tracks) (k+1+1+1+1))+1+1)))+1+1)))
 have b9:=Yw x.Saves (nkEs (els x.Used) (nkEs (els x.Now.Bodies) (nkEs (els x.Now.Scores) (nkEs (els x.Now.Level.Rows) (nkEs (els x.Base.Bodies) (nkEs (els x.Base.Scores) (nkEs (els x.Base.Level.Rows) (nkEs (els x.Tracks) (k+1+1+1+1))+1+1)))+1+1))))
 have b10:=Yw x.Sums (nkEs (els x.Saves) (nkEs (els x.Used) (nkEs (els x.Now.Bodies) (nkEs (els x.Now.Scores) (nkEs (els x.Now.Level.Rows) (nkEs (els x.Base.Bodies) (nkEs (els x.Base.Scores) (nkEs (els x.Base.Level.Rows) (nkEs (els x.Tracks) (k+1+1+1+1))+1+1)))+1+1)))))
 have w1:Enc.wt x.Tracks=x.Tracks.length+wts x.Tracks:=rfl
 have w2:Enc.wt x.Base.Level.Rows=x.Base.Level.Rows.length+wts x.Base.Level.Rows:=rfl
 have w3:Enc.wt x.Base.Scores=x.Base.Scores.length+wts x.Base.Scores:=rfl
 have w4:Enc.wt x.Base.Bodies=x.Base.Bodies.length+wts x.Base.Bodies:=rfl
 have w5:Enc.wt x.Now.Level.Rows=x.Now.Level.Rows.length+wts x.Now.Level.Rows:=rfl
 have w6:Enc.wt x.Now.Scores=x.Now.Scores.length+wts x.Now.Scores:=rfl
 have w7:Enc.wt x.Now.Bodies=x.Now.Bodies.length+wts x.Now.Bodies:=rfl
 have w8:Enc.wt x.Used=x.Used.length+wts x.Used:=rfl
 have w9:Enc.wt x.Saves=x.Saves.length+wts x.Saves:=rfl
 have w10:Enc.wt x.Sums=x.Sums.length+wts x.Sums:=rfl
 have v0:Enc.wt x=Enc.wt x.Tracks+Enc.wt x.Base+Enc.wt x.Now+Enc.wt x.Used+Enc.wt x.Saves+Enc.wt x.Sums+Enc.wt x.Fault:=rfl
 have v1:Enc.wt x.Base=Enc.wt x.Base.Level.Rows+Enc.wt x.Base.Scores+Enc.wt x.Base.Bodies:=rfl
 have v2:Enc.wt x.Now=Enc.wt x.Now.Level.Rows+Enc.wt x.Now.Scores+Enc.wt x.Now.Bodies:=rfl
 show nkEs (els x.Sums) (nkEs (els x.Saves) (nkEs (els x.Used) (nkEs (els x.Now.Bodies) (nkEs (els x.Now.Scores) (nkEs (els x.Now.Level.Rows) (nkEs (els x.Base.Bodies) (nkEs (els x.Base.Scores) (nkEs (els x.Base.Level.Rows) (nkEs (els x.Tracks) (k+1+1+1+1))+1+1)))+1+1)))))+1+1+1+1+1≤_
 omega⟩
instance:Mkb TFlight:=⟨fun x k=>by
 show k+1+1≤_
 omega⟩
instance:Mkb TWire:=⟨fun x k=>by
 have b1:=Yw x.Flights (k+1+1+1+1+1+1+1)
 have w1:Enc.wt x.Flights=x.Flights.length+wts x.Flights:=rfl
 have v0:Enc.wt x=Enc.wt x.Flights:=rfl
 show nkEs (els x.Flights) (k+1+1+1+1+1+1+1)+1+1≤_
 omega⟩
instance:Mkb TPace:=⟨fun x k=>by
 show k+1+1+1+1+1≤_
 omega⟩
instance:Mkb TSpectator:=⟨fun x k=>by
 have b1:=Yw x.World.Level.Rows (k)
 have b2:=Yw x.World.Scores (nkEs (els x.World.Level.Rows) (k)+1+1)
 have b3:=Yw x.World.Bodies (nkEs (els x.World.Scores) (nkEs (els x.World.Level.Rows) (k)+1+1))
 have w1:Enc.wt x.World.Level.Rows=x.World.Level.Rows.length+wts x.World.Level.Rows:=rfl
 have w2:Enc.wt x.World.Scores=x.World.Scores.length+wts x.World.Scores:=rfl
 have w3:Enc.wt x.World.Bodies=x.World.Bodies.length+wts x.World.Bodies:=rfl
 have v0:Enc.wt x=Enc.wt x.World:=rfl
 have v1:Enc.wt x.World=Enc.wt x.World.Level.Rows+Enc.wt x.World.Scores+Enc.wt x.World.Bodies:=rfl
 show nkEs (els x.World.Bodies) (nkEs (els x.World.Scores) (nkEs (els x.World.Level.Rows) (k)+1+1))+1≤_
 omega⟩
instance:Mkb TAlarm:=⟨fun x k=>by
 have b1:=Yw x.Parts (k+1)
 have w1:Enc.wt x.Parts=x.Parts.length+wts x.Parts:=rfl
 have v0:Enc.wt x=Enc.wt x.Parts:=rfl
 show nkEs (els x.Parts) (k+1)≤_
 omega⟩
def n1M (x:TMatch) (k:Int):Int:=nkEs (els x.Level.Rows) k
def n2M (x:TMatch) (k:Int):Int:=nkEs (els x.Scripts) (n1M x k)
def n3M (x:TMatch) (k:Int):Int:=nkEs (els x.Peers) (n2M x k)
def n4M (x:TMatch) (k:Int):Int:=nkEs (els x.Wires) (n3M x k)
def n5M (x:TMatch) (k:Int):Int:=nkEs (els x.Paces) (n4M x k)
def n6M (x:TMatch) (k:Int):Int:=nkEs (els x.Acks) (n5M x k)
def n7M (x:TMatch) (k:Int):Int:=nkEs (els x.Watchers) (n6M x k)
def n8M (x:TMatch) (k:Int):Int:=nkEs (els x.Lines) (n7M x k)
def n9M (x:TMatch) (k:Int):Int:=nkEs (els x.Alarms) (n8M x k)
@[reducible] def mM (x:TMatch) (k:Int) (l:List Ob):List Ob := .row 1 (mkEs (els x.Level.Rows) k) :: .row 1 (mkEs (els x.Scripts) (n1M x k)) :: .row 23 (mkEs (els x.Peers) (n2M x k)) :: .row 1 (mkEs (els x.Wires) (n3M x k)) :: .row 1 (mkEs (els x.Paces) (n4M x k)) :: .row 1 (mkEs (els x.Acks) (n5M x k)) :: .row 6 (mkEs (els x.Watchers) (n6M x k)) :: .row 10 (mkEs (els x.Lines) (n7M x k)) :: .row 2 (mkEs (els x.Alarms) (n8M x k))::l
theorem nM_le (x:TMatch) (k:Int):k≤n9M x k∧n9M x k≤k+23*(Enc.wt x:Nat):=by
 have a0:=Y3 (els x.Level.Rows) k
 have b0:=Yw x.Level.Rows k
 rw[show nkEs (els x.Level.Rows) k=n1M x k from rfl] at a0 b0
 have w0:Enc.wt x.Level.Rows=x.Level.Rows.length+wts x.Level.Rows:=rfl
 have a1:=Y3 (els x.Scripts) (n1M x k)
 have b1:=Yw x.Scripts (n1M x k)
 rw[show nkEs (els x.Scripts) (n1M x k)=n2M x k from rfl] at a1 b1
 have w1:Enc.wt x.Scripts=x.Scripts.length+wts x.Scripts:=rfl
 have a2:=Y3 (els x.Peers) (n2M x k)
 have b2:=Yw x.Peers (n2M x k)
 rw[show nkEs (els x.Peers) (n2M x k)=n3M x k from rfl] at a2 b2
 have w2:Enc.wt x.Peers=x.Peers.length+wts x.Peers:=rfl
 have a3:=Y3 (els x.Wires) (n3M x k)
 have b3:=Yw x.Wires (n3M x k)
 rw[show nkEs (els x.Wires) (n3M x k)=n4M x k from rfl] at a3 b3
 have w3:Enc.wt x.Wires=x.Wires.length+wts x.Wires:=rfl
 have a4:=Y3 (els x.Paces) (n4M x k)
 have b4:=Yw x.Paces (n4M x k)
 rw[show nkEs (els x.Paces) (n4M x k)=n5M x k from rfl] at a4 b4
 have w4:Enc.wt x.Paces=x.Paces.length+wts x.Paces:=rfl
 have a5:=Y3 (els x.Acks) (n5M x k)
 have b5:=Yw x.Acks (n5M x k)
 rw[show nkEs (els x.Acks) (n5M x k)=n6M x k from rfl] at a5 b5
 have w5:Enc.wt x.Acks=x.Acks.length+wts x.Acks:=rfl
 have a6:=Y3 (els x.Watchers) (n6M x k)
 have b6:=Yw x.Watchers (n6M x k)
 rw[show nkEs (els x.Watchers) (n6M x k)=n7M x k from rfl] at a6 b6
 have w6:Enc.wt x.Watchers=x.Watchers.length+wts x.Watchers:=rfl
 have a7:=Y3 (els x.Lines) (n7M x k)
 have b7:=Yw x.Lines (n7M x k)
 rw[show nkEs (els x.Lines) (n7M x k)=n8M x k from rfl] at a7 b7
 have w7:Enc.wt x.Lines=x.Lines.length+wts x.Lines:=rfl
 have a8:=Y3 (els x.Alarms) (n8M x k)
 have b8:=Yw x.Alarms (n8M x k)
 rw[show nkEs (els x.Alarms) (n8M x k)=n9M x k from rfl] at a8 b8
 have w8:Enc.wt x.Alarms=x.Alarms.length+wts x.Alarms:=rfl
 have hw:Enc.wt x=Enc.wt x.Level.Rows+Enc.wt x.Scripts+Enc.wt x.Peers+Enc.wt x.Wires+Enc.wt x.Paces+Enc.wt x.Acks+Enc.wt x.Watchers+Enc.wt x.Lines+Enc.wt x.Alarms:=rfl
 omega
theorem L_mkLevel (xs:List ByteArray) (k:Int) (g:Enc.gd xs) (h0:0<k) (hb:nkEs (els xs) k≤1073741823):Con Tryz.prog 24 [.row 1 (els xs),.gh 0 (.ag [.ref 0])] [.ag [.ref 0],ai k] [.row 1 (mkEs (els xs) k),.gh 0 (.ag [.ref 0])] (I (nkEs (els xs) k)):=by
 refine Con.of Tryz.func24 J Tryz.ntmps24 J (fun E => ?_)
 refine Wz [36,62] ?_;refine Xd (lo := [_]) (gs := [(0,.c (.ref 0))]) (lo' := [_]) (new := []) [0] [(0,0,.ref 0)] (Xu xs k g h0 hb) J J J J J J J J J J J J J J J J J ?_;refine Wz [4,160] ?_
 exact Uq J (Ur [0,1] J J J)
theorem L_mkMatch (x:TMatch) (k:Int) (g:Enc.gd x) (h0:0<k) (hb:n9M x k≤1073741823):Con Tryz.prog 28 (mR x [.gh 0 (.ag (mC x 0))]) [.ag (mC x 0),ai k] (mM x k [.gh 0 (.ag (mC x 0))]) (I (n9M x k)):=by
 obtain⟨gL,_,_,gS,gP,gW,gPa,gA,_,gWa,gLi,gAl,_⟩:=g
 have a0:=Y3 (els x.Level.Rows) k
 rw[show nkEs (els x.Level.Rows) k=n1M x k from rfl] at a0
 have a1:=Y3 (els x.Scripts) (n1M x k)
 rw[show nkEs (els x.Scripts) (n1M x k)=n2M x k from rfl] at a1
 have a2:=Y3 (els x.Peers) (n2M x k)
 rw[show nkEs (els x.Peers) (n2M x k)=n3M x k from rfl] at a2
 have a3:=Y3 (els x.Wires) (n3M x k)
 rw[show nkEs (els x.Wires) (n3M x k)=n4M x k from rfl] at a3
 have a4:=Y3 (els x.Paces) (n4M x k)
 rw[show nkEs (els x.Paces) (n4M x k)=n5M x k from rfl] at a4
 have a5:=Y3 (els x.Acks) (n5M x k)
 rw[show nkEs (els x.Acks) (n5M x k)=n6M x k from rfl] at a5
 have a6:=Y3 (els x.Watchers) (n6M x k)
 rw[show nkEs (els x.Watchers) (n6M x k)=n7M x k from rfl] at a6
 have a7:=Y3 (els x.Lines) (n7M x k)
 rw[show nkEs (els x.Lines) (n7M x k)=n8M x k from rfl] at a7
 have a8:=Y3 (els x.Alarms) (n8M x k)
 rw[show nkEs (els x.Alarms) (n8M x k)=n9M x k from rfl] at a8
 have c0:=L_mkLevel x.Level.Rows k gL (by omega) (show n1M x k≤_ by omega)
 rw[show nkEs (els x.Level.Rows) k=n1M x k from rfl] at c0
 have c1:=L_mkIntSS x.Scripts (n1M x k) gS (by omega) (show n2M x k≤_ by omega)
 rw[show nkEs (els x.Scripts) (n1M x k)=n2M x k from rfl] at c1
 have c2:=L_mkPeerS x.Peers (n2M x k) gP (by omega) (show n3M x k≤_ by omega)
 rw[show nkEs (els x.Peers) (n2M x k)=n3M x k from rfl] at c2
 have c3:=L_mkWireSS x.Wires (n3M x k) gW (by omega) (show n4M x k≤_ by omega)
 rw[show nkEs (els x.Wires) (n3M x k)=n4M x k from rfl] at c3
 have c4:=L_mkPaceSS x.Paces (n4M x k) gPa (by omega) (show n5M x k≤_ by omega)
 rw[show nkEs (els x.Paces) (n4M x k)=n5M x k from rfl] at c4
 have c5:=L_mkIntSS x.Acks (n5M x k) gA (by omega) (show n6M x k≤_ by omega)
 rw[show nkEs (els x.Acks) (n5M x k)=n6M x k from rfl] at c5
 have c6:=L_mkSpectatorS x.Watchers (n6M x k) gWa (by omega) (show n7M x k≤_ by omega)
 rw[show nkEs (els x.Watchers) (n6M x k)=n7M x k from rfl] at c6
 have c7:=L_mkWireS x.Lines (n7M x k) gLi (by omega) (show n8M x k≤_ by omega)
 rw[show nkEs (els x.Lines) (n7M x k)=n8M x k from rfl] at c7
 have c8:=L_mkAlarmS x.Alarms (n8M x k) gAl (by omega) (show n9M x k≤_ by omega)
 rw[show nkEs (els x.Alarms) (n8M x k)=n9M x k from rfl] at c8
 refine Con.of Tryz.func28 J Tryz.ntmps28 J (fun E => ?_)
 refine Wz [36,104] ?_;refine Xd (lo := [_]) (gs := [(0,.ag [.ref 0])]) (lo' := [_]) (new := []) [0] [(0,0,.ref 0)] (c0) J J J J J J J J J J J J J J J J J ?_;refine AL.weak (st':=(⟨42,[(2,.o (.c (.ptr 10 0))),(8,I (n1M x k))],[.row 1 (mkEs (els x.Level.Rows) k),.row 1 (els x.Scripts),.row 23 (els x.Peers),.row 1 (els x.Wires),.row 1 (els x.Paces),.row 1 (els x.Acks),.row 6 (els x.Watchers),.row 10 (els x.Lines),.row 2 (els x.Alarms),.gh 0 (.ag (mC x 0)),.box (mC x 0)]⟩:St)) (Up [0,1,2,3,4,5,6,7,8,9,10] J ((by kernel_rfl)) (.c J (.c J (.nil)))) ?_;refine Wz [4,62] ?_;refine Xd (lo := [_]) (gs := [(0,.c (.ref 0))]) (lo' := [_]) (new := []) [1] [(0,0,.ref 0)] (c1) J J J J J J J J J J J J J J J J J ?_;refine AL.weak (st':=(⟨42,[(2,.o (.c (.ptr 10 0))),(12,I (n2M x k))],[.row 1 (mkEs (els x.Level.Rows) k),.row 1 (mkEs (els x.Scripts) (n1M x k)),.row 23 (els x.Peers),.row 1 (els x.Wires),.row 1 (els x.Paces),.row 1 (els x.Acks),.row 6 (els x.Watchers),.row 10 (els x.Lines),.row 2 (els x.Alarms),.gh 0 (.ag (mC x 0)),.box (mC x 0)]⟩:St)) (Up [0,1,2,3,4,5,6,7,8,9,10] J ((by kernel_rfl)) (.c J (.c J (.nil)))) ?_;refine Wz [4,62] ?_;refine Xd (lo := [_]) (gs := [(0,.c (.ref 0))]) (lo' := [_]) (new := []) [2] [(0,0,.ref 0)] (c2) J J J J J J J J J J J J J J J J J ?_;refine AL.weak (st':=(⟨42,[(2,.o (.c (.ptr 10 0))),(16,I (n3M x k))],[.row 1 (mkEs (els x.Level.Rows) k),.row 1 (mkEs (els x.Scripts) (n1M x k)),.row 23 (mkEs (els x.Peers) (n2M x k)),.row 1 (els x.Wires),.row 1 (els x.Paces),.row 1 (els x.Acks),.row 6 (els x.Watchers),.row 10 (els x.Lines),.row 2 (els x.Alarms),.gh 0 (.ag (mC x 0)),.box (mC x 0)]⟩:St)) (Up [0,1,2,3,4,5,6,7,8,9,10] J ((by kernel_rfl)) (.c J (.c J (.nil)))) ?_;refine Wz [4,62] ?_;refine Xd (lo := [_]) (gs := [(0,.c (.ref 0))]) (lo' := [_]) (new := []) [3] [(0,0,.ref 0)] (c3) J J J J J J J J J J J J J J J J J ?_;refine AL.weak (st':=(⟨42,[(2,.o (.c (.ptr 10 0))),(20,I (n4M x k))],[.row 1 (mkEs (els x.Level.Rows) k),.row 1 (mkEs (els x.Scripts) (n1M x k)),.row 23 (mkEs (els x.Peers) (n2M x k)),.row 1 (mkEs (els x.Wires) (n3M x k)),.row 1 (els x.Paces),.row 1 (els x.Acks),.row 6 (els x.Watchers),.row 10 (els x.Lines),.row 2 (els x.Alarms),.gh 0 (.ag (mC x 0)),.box (mC x 0)]⟩:St)) (Up [0,1,2,3,4,5,6,7,8,9,10] J ((by kernel_rfl)) (.c J (.c J (.nil)))) ?_;refine Wz [4,62] ?_;refine Xd (lo := [_]) (gs := [(0,.c (.ref 0))]) (lo' := [_]) (new := []) [4] [(0,0,.ref 0)] (c4) J J J J J J J J J J J J J J J J J ?_;refine AL.weak (st':=(⟨42,[(2,.o (.c (.ptr 10 0))),(24,I (n5M x k))],[.row 1 (mkEs (els x.Level.Rows) k),.row 1 (mkEs (els x.Scripts) (n1M x k)),.row 23 (mkEs (els x.Peers) (n2M x k)),.row 1 (mkEs (els x.Wires) (n3M x k)),.row 1 (mkEs (els x.Paces) (n4M x k)),.row 1 (els x.Acks),.row 6 (els x.Watchers),.row 10 (els x.Lines),.row 2 (els x.Alarms),.gh 0 (.ag (mC x 0)),.box (mC x 0)]⟩:St)) (Up [0,1,2,3,4,5,6,7,8,9,10] J ((by kernel_rfl)) (.c J (.c J (.nil)))) ?_;refine Wz [4,62] ?_;refine Xd (lo := [_]) (gs := [(0,.c (.ref 0))]) (lo' := [_]) (new := []) [5] [(0,0,.ref 0)] (c5) J J J J J J J J J J J J J J J J J ?_;refine AL.weak (st':=(⟨42,[(2,.o (.c (.ptr 10 0))),(28,I (n6M x k))],[.row 1 (mkEs (els x.Level.Rows) k),.row 1 (mkEs (els x.Scripts) (n1M x k)),.row 23 (mkEs (els x.Peers) (n2M x k)),.row 1 (mkEs (els x.Wires) (n3M x k)),.row 1 (mkEs (els x.Paces) (n4M x k)),.row 1 (mkEs (els x.Acks) (n5M x k)),.row 6 (els x.Watchers),.row 10 (els x.Lines),.row 2 (els x.Alarms),.gh 0 (.ag (mC x 0)),.box (mC x 0)]⟩:St)) (Up [0,1,2,3,4,5,6,7,8,9,10] J ((by kernel_rfl)) (.c J (.c J (.nil)))) ?_;refine Wz [4,62] ?_;refine Xd (lo := [_]) (gs := [(0,.c (.ref 0))]) (lo' := [_]) (new := []) [6] [(0,0,.ref 0)] (c6) J J J J J J J J J J J J J J J J J ?_;refine AL.weak (st':=(⟨42,[(2,.o (.c (.ptr 10 0))),(32,I (n7M x k))],[.row 1 (mkEs (els x.Level.Rows) k),.row 1 (mkEs (els x.Scripts) (n1M x k)),.row 23 (mkEs (els x.Peers) (n2M x k)),.row 1 (mkEs (els x.Wires) (n3M x k)),.row 1 (mkEs (els x.Paces) (n4M x k)),.row 1 (mkEs (els x.Acks) (n5M x k)),.row 6 (mkEs (els x.Watchers) (n6M x k)),.row 10 (els x.Lines),.row 2 (els x.Alarms),.gh 0 (.ag (mC x 0)),.box (mC x 0)]⟩:St)) (Up [0,1,2,3,4,5,6,7,8,9,10] J ((by kernel_rfl)) (.c J (.c J (.nil)))) ?_;refine Wz [4,62] ?_;refine Xd (lo := [_]) (gs := [(0,.c (.ref 0))]) (lo' := [_]) (new := []) [7] [(0,0,.ref 0)] (c7) J J J J J J J J J J J J J J J J J ?_;refine AL.weak (st':=(⟨42,[(2,.o (.c (.ptr 10 0))),(36,I (n8M x k))],[.row 1 (mkEs (els x.Level.Rows) k),.row 1 (mkEs (els x.Scripts) (n1M x k)),.row 23 (mkEs (els x.Peers) (n2M x k)),.row 1 (mkEs (els x.Wires) (n3M x k)),.row 1 (mkEs (els x.Paces) (n4M x k)),.row 1 (mkEs (els x.Acks) (n5M x k)),.row 6 (mkEs (els x.Watchers) (n6M x k)),.row 10 (mkEs (els x.Lines) (n7M x k)),.row 2 (els x.Alarms),.gh 0 (.ag (mC x 0)),.box (mC x 0)]⟩:St)) (Up [0,1,2,3,4,5,6,7,8,9,10] J ((by kernel_rfl)) (.c J (.c J (.nil)))) ?_;refine Wz [4,62] ?_;refine Xd (lo := [_]) (gs := [(0,.c (.ref 0))]) (lo' := [_]) (new := []) [8] [(0,0,.ref 0)] (c8) J J J J J J J J J J J J J J J J J ?_;refine AL.weak (st':=(⟨42,[(2,.o (.c (.ptr 10 0))),(40,I (n9M x k))],[.row 1 (mkEs (els x.Level.Rows) k),.row 1 (mkEs (els x.Scripts) (n1M x k)),.row 23 (mkEs (els x.Peers) (n2M x k)),.row 1 (mkEs (els x.Wires) (n3M x k)),.row 1 (mkEs (els x.Paces) (n4M x k)),.row 1 (mkEs (els x.Acks) (n5M x k)),.row 6 (mkEs (els x.Watchers) (n6M x k)),.row 10 (mkEs (els x.Lines) (n7M x k)),.row 2 (mkEs (els x.Alarms) (n8M x k)),.gh 0 (.ag (mC x 0)),.box (mC x 0)]⟩:St)) (Up [0,1,2,3,4,5,6,7,8,9,10] J ((by kernel_rfl)) (.c J (.c J (.nil)))) ?_;refine Wz [4,160] ?_
 exact Uq J (Ur [0,1,2,3,4,5,6,7,8,9] J J J)
end
section
open Go.RowKit

def cntW (x:TWorld) (k:Int):Int:=k+x.Level.Rows.length+x.Scores.length+9*x.Bodies.length
def markW (x:TWorld) (k:Int):TWorld:=⟨⟨markS x.Level.Rows k⟩,x.Tick,x.Seed,markI x.Scores (k+x.Level.Rows.length),markB x.Bodies (k+x.Level.Rows.length+x.Scores.length)⟩
theorem L_markWorld (x:TWorld) (k:Int) (h1:x.Level.Rows.length≤1048576) (h2:x.Scores.length≤1048576) (h3:x.Bodies.length≤1048576) (h0:0<k) (hk:k≤1073741823):Con Tryz.prog 49 [.row 1 (els x.Level.Rows),.row 1 (els x.Scores),.row 9 (els x.Bodies),.gh 0 (.ag (ownV 0 (Enc.e x)))] [.ag (ownV 0 (Enc.e x)),ai k]
  [.row 1 (els (markW x k).Level.Rows),.row 1 (els (markW x k).Scores),.row 9 (els (markW x k).Bodies),.gh 0 (.ag (ownV 0 (Enc.e x)))] (I (cntW x k)):=by
 refine Con.of Tryz.func49 J Tryz.ntmps49 J (fun E => ?_)
 refine Wz [36,104] ?_;refine Xd (lo := [_]) (gs := [(0,.ag [.ref 0])]) (lo' := [_]) (new := []) [0] [(0,0,.ref 0)] (L_markLevel x.Level.Rows k h1 h0 (by omega)) J J J J J J J J J J J J J J J J J ?_;refine Wz [4,62] ?_;refine Xd (lo := [_]) (gs := [(0,.c (.ref 0))]) (lo' := [_]) (new := []) [1] [(0,0,.ref 0)] (L_markIntS x.Scores (k+x.Level.Rows.length) (by omega) (by omega) (by omega)) J J J J J J J J J J J J J J J J J ?_;refine Wz [4,62] ?_;refine Xd (lo := [_]) (gs := [(0,.c (.ref 0))]) (lo' := [_]) (new := []) [2] [(0,0,.ref 0)] (L_markBodyS x.Bodies (k+x.Level.Rows.length+x.Scores.length) h3 (by omega) (by omega)) J J J J J J J J J J J J J J J J J ?_;refine Wz [4,160] ?_
 exact Uq J (Ur [0,1,2,3] J J J)
theorem L_heldWorld (x:TWorld) (k:Int) (h1:x.Level.Rows.length≤1048576) (h2:x.Scores.length≤1048576) (h3:x.Bodies.length≤1048576) (h0:0<k) (hk:k≤1073741823):Con Tryz.prog 50 [] [ag (markW x k),ai k] [] (I (cntW x k)):=by
 have hn:decide (k+(x.Level.Rows.length:Int)<0)=false:=Gqa (by omega)
 have hm:decide (k+(x.Level.Rows.length:Int)+x.Scores.length<0)=false:=Gqa (by omega)
 have hm2:decide (k+(x.Level.Rows.length:Int)+x.Scores.length+9*x.Bodies.length<0)=false:=Gqa (by omega)
 refine Con.of Tryz.func50 J Tryz.ntmps50 J (fun E => ?_)
 refine Wz [36,104] ?_;refine zx (Qj J J (L_heldLevel x.Level.Rows k h1 h0 (by omega)) J) J ?_;refine Wz [41] ?_;refine zx (Qj J J (L_heldIntS x.Scores (k+x.Level.Rows.length) (by omega) (by omega) (by omega)) J) J ?_;refine Wz [41] ?_;refine zx (Qj J J (L_heldBodyS x.Bodies (k+x.Level.Rows.length+x.Scores.length) h3 (by omega) (by omega)) J) J ?_;refine Wz [118,160] ?_
 exact Uq J (Ur [] J J J)
end
end Go.Proofs.YtoecjaohdnoenaaGreat
