/-
  Rules, data and contracts of functions: part 19 of the proof.
  Conditions: those that each theorem names.
-/
import Derived.Lib.SplitLaws
import Derived.Test.YtpmacgnmlmmojaaGreatDoorDDRBRowk15
import Derived.Test.YtpmacgnmlmmojaaGreatDoorDDRBRowk16
import Derived.Test.YtpmacgnmlmmojaaGreatDoorDDRBRowk17
set_option linter.unusedSimpArgs false
set_option linter.unusedVariables false
set_option maxRecDepth 8000
namespace Go.Proofs.YtpmacgnmlmmojaaGreatDoor
section
open Go.RowKit

def preL (p:List UInt8):List (List UInt8)→List (List UInt8)
 | [] => [p]
 |h::t=>(p++h)::t
theorem index_cons (b c:UInt8) (l:List UInt8):Lib.index (b::l) [c]=if b=c then 0 else if Lib.index l [c] = -1 then -1 else Lib.index l [c]+1:=by
 rw[Lib.index]
 by_cases h:b=c
 ·subst h; simp[List.isPrefixOf]
 ·rw[if_neg h,if_neg (by simp[List.isPrefixOf,Ne.symm h])]
  by_cases h2:Lib.index l [c] = -1 <;> simp[h2]
theorem bs_lst (s:ByteArray):bs s.data.toList=s:=by
 obtain⟨⟨l⟩⟩:=s
 rfl
/-! ### Where the first colon is -/
@[reducible] def MaxW (w:World):Prop:=∃ m:Int,w.cell? ⟨0,0,none⟩=some (.int .i64 m)
theorem Zw:Kept MaxW:=⟨fun w w' ⟨m,h⟩ hk=>⟨m,(World.cell?_of_block (w:=w) (a:=⟨_,0,none⟩) (hk _ (World.block_lt_of_cell? w _ h))).trans h⟩⟩
end
section
open Go.RowKit

def splitC (c:UInt8):List UInt8→List (List UInt8)
 | [] => [[]]
 |b::l=>if b=c then []::splitC c l else preL [b] (splitC c l)
theorem splitC_ne (c:UInt8):∀ l,∃ h t,splitC c l=h::t
 | []=>⟨_,_,rfl⟩
 |b::l=>by
  obtain⟨h,t,e⟩:=splitC_ne c l
  rw[splitC,e]
  split
  ·exact⟨_,_,rfl⟩
  ·exact⟨_,_,rfl⟩
theorem splitC_len (c:UInt8):∀ l:List UInt8,(splitC c l).length≤l.length+1
 | []=>by simp[splitC]
 |b::l=>by
  have ih:=splitC_len c l
  obtain⟨h,t,e⟩:=splitC_ne c l
  rw[splitC]
  split
  ·simp; omega
  ·rw[e] at ih ⊢; simp[preL] at ih ⊢; omega
theorem splitC_mem (c:UInt8):∀ l:List UInt8,∀ x∈splitC c l,x.length≤l.length
 | []=>fun x hx=>by simp[splitC] at hx; simp[hx]
 | b::l=>fun x hx=>by
  have ih:=splitC_mem c l
  obtain⟨h,t,e⟩:=splitC_ne c l
  rw[splitC,e] at hx
  rw[e] at ih
  split at hx
  ·rcases List.mem_cons.1 hx with rfl | hx
   ·simp
   ·have:=ih x hx; simp; omega
  ·simp only[preL,List.mem_cons] at hx
   rcases hx with rfl | hx
   ·have:=ih h (by simp); simp; omega
   ·have:=ih x (by simp[hx]); simp; omega
theorem splitC_one (c:UInt8):∀ l:List UInt8,Lib.splitK [c] 0 (Lib.count l [c]) l=splitC c l
 | []=>rfl
 | b::l=>by
  have ih:=splitC_one c l
  by_cases h:b=c
  ·subst h
   rw[Lib.count_cons_eq,Nat.add_comm,Lib.splitK,if_neg (by rw[index_cons,if_pos rfl]; decide),index_cons,if_pos rfl,splitC,if_pos rfl,←ih]
   rfl
  ·rw[Lib.count_cons_ne _ _ _ h,splitC,if_neg h,←ih]
   cases hn:Lib.count l [c] with
   |zero=>rfl
   |succ m =>
    have hi:Lib.index l [c] ≠ -1:=fun e=>by rw[Lib.count_miss e] at hn; cases hn
    have hg:=Lib.index_ge l [c]
    obtain⟨i,hi2⟩:∃ i:Nat,Lib.index l [c]=i:=⟨(Lib.index l [c]).toNat,by omega⟩
    have hne:¬((i:Int) == -1)=true:=by simp <;> omega
    have hne2:¬((i:Int)+1 == -1)=true:=by simp <;> omega
    rw[Lib.splitK,Lib.splitK,index_cons,if_neg h,if_neg hi,hi2,if_neg hne2,if_neg hne,show ((i:Int)+1).toNat=i+1 by omega,Int.toNat_natCast]
    rfl
theorem splitBC_one (c:UInt8) (s:ByteArray):Lib.splitB ⟨#[c]⟩ 0 (Lib.countB s ⟨#[c]⟩) s=(splitC c s.data.toList).map bs:=by
 have h:=Lib.splitB_data ⟨#[c]⟩ 0 (Lib.countB s ⟨#[c]⟩) s
 have h2:Lib.countB s ⟨#[c]⟩=Lib.count s.data.toList [c]:=rfl
 rw[h2] at h ⊢
 rw[show ((⟨#[c]⟩:ByteArray).data.toList) = [c] from rfl,splitC_one] at h
 rw[←h,List.map_map]
 have:(bs ∘ fun x:ByteArray=>x.data.toList)=id:=funext fun x=>bs_lst x
 rw[this,List.map_id]
theorem I_SplitC (c:UInt8) (s:ByteArray) (hs:s.size≤1073741824):ConP MaxW Tryz.prog 151 [astr s,astr (bs [c])] [.row 1 (els ((splitC c s.data.toList).map bs))] (.o (.c (.ref 0))):=by
 rintro w ⟨m,hm⟩ H F vs hok hob hlen hargs
 have hnil:∀ p,H p = .nil:=fun p=>hob p
 match vs,hlen with
 | [v,u],_ =>
  obtain⟨rfl,_⟩:v = .string s∧_:=RO.plain (hargs 0 _ v rfl rfl)
  obtain⟨rfl,_⟩:u = .string (bs [c])∧_:=RO.plain (hargs 1 _ u rfl rfl)
  refine (Tryz.strings_Split s (bs [c]) m w (by omega) hm (by rw[Ys]; exact Gqf 1)).mono ?_
  rintro e w' ⟨rfl,rfl⟩
  have hsp:=splitBC_one c s
  have hcl:=Lib.splitB_all (bs [c]) (by rw[Ys]; exact Gqf 1) 0 (Lib.countB s (bs [c])) s rfl
  rw[hsp,List.length_map] at hcl
  have hsl:=splitC_len c s.data.toList
  rw[←Lib.size_eq] at hsl
  rw[hsp,←hcl]
  obtain⟨ps,hps⟩:∃ ps,ps=(splitC c s.data.toList).map bs:=⟨_,rfl⟩
  have hpl:ps.length=(splitC c s.data.toList).length:=by rw[hps,List.length_map]
  rw[←hps,←hpl]
  rw[←hpl] at hcl hsl
  clear hps hsp hpl
  have hel:=Y9 ps
  have hb:∀ o,Below w.heap.size w (w.alloc o):=fun o=>⟨rfl,rfl,rfl,by show w.heap.size≤(w.heap.push o).size; rw[Array.size_push]; omega,fun b h=>by show (w.heap.push o)[b]? = _; rw[Array.getElem?_push,if_neg (by omega)]⟩
  have hb:=hb (.cells (ps.map Value.string).toArray 9)
  have hg:(w.alloc (.cells (ps.map Value.string).toArray 9)).heap[w.heap.size]? = some (.cells (ps.map Value.string).toArray 9 (0,0)):=by show (w.heap.push _)[w.heap.size]? = _; rw[Array.getElem?_push,if_pos rfl]
  have how:OW (w.alloc (.cells (ps.map Value.string).toArray 9)) (.sl 1 (els ps)) (.slice (some ⟨w.heap.size,0,none⟩) ps.length ps.length) (w.heap.size::(ps.map fun _ => [([]:List Nat)]).flatten.flatten):=by
   have h:=OW.sl (w:=w.alloc (.cells (ps.map Value.string).toArray 9)) (els ps) w.heap.size 0 1 ps.length 9 (ps.map Value.string).toArray (0,0) (fun i _ => .string (ps.getD i ⟨#[]⟩)) (ps.map fun _ => [([]:List Nat)]) hg (.inl rfl) (by omega) (by unfold maxLen; omega) (by simp) (by decide) (fun e he=>els_k ps e he) (by simp[hel]) (fun f hf=>by obtain⟨_,_,rfl⟩:=Gqr.1 hf; rfl)
    (fun i j hi hj=>by
     have hi':i<ps.length:=by omega
     rw[show 0+i*1+j=i by omega]
     simp[Gqc,hi'])
    (fun i j e t fs f h1 h2 h3 h4=>by
     have hi:i<ps.length:=by have:=Zk h1; omega
     rw[els,Gqh,Gqd hi] at h1
     simp only[Gqy,Option.some.injEq] at h1
     subst h1
     have hj:j=0:=by have:=Zk h2; exact Nat.lt_one_iff.1 this
     subst hj
     have ht:t = .v (.string ps[i]):=(Option.some.inj h2).symm
     subst ht
     rw[Gqh,Gqd hi] at h3
     simp only[Gqy,Option.some.injEq] at h3
     subst h3
     have hf:f = []:=(Option.some.inj h4).symm
     subst hf
     rw[Gqc,Gqd hi]
     exact OW.v _ J)
   rwa[hel] at h
  have hfp:w.heap.size::(ps.map fun _ => [([]:List Nat)]).flatten.flatten = [w.heap.size]:=by
   congr 1
   simp
  rw[hfp] at how
  refine⟨fun p=>if p=0 then .ow (.sl 1 (els ps)) (.slice (some ⟨w.heap.size,0,none⟩) ps.length ps.length) [w.heap.size] else .nil,F,_,J,⟨hb.os,hb.tape,hb.output,hb.size,fun b h1 _=>hb.block b h1,fun _ h=>h,fun _ h => .inl h,fun p b h => ?_,fun p i v h => ?_⟩,⟨fun p => ?_,fun p => ?_,fun p q b h1 h2 => ?_,fun p b h1 h2 => ?_,fun b h=>Gxv (hok.flt b h) hb.size⟩,fun p => ?_,?_⟩
  ·by_cases hp:p=0
   ·simp[hp,Pc.fp] at h; exact .inr (by show w.heap.size≤b; omega)
   ·simp[hp,Pc.fp] at h
  ·by_cases hp:p=0 <;> simp[hp] at h
  ·by_cases hp:p=0
   ·simp only[hp]; exact how
   ·simp only[hp,if_false]; trivial
  ·by_cases hp:p=0 <;> simp[hp,Pc.fp]
  ·by_cases hp:p=0
   ·by_cases hq:q=0
    ·rw[hp,hq]
    ·simp[hq,Pc.fp] at h2
   ·simp[hp,Pc.fp] at h1
  ·by_cases hp:p=0
   ·simp[hp,Pc.fp] at h1
    have:=hok.flt b h2
    omega
   ·simp[hp,Pc.fp] at h1
  ·cases p with
   |zero=>exact⟨_,_,rfl⟩
   |succ p=>simp[RB]
  ·exact⟨_,_,rfl⟩
theorem els_snocC {l:List ByteArray} {x:ByteArray}:els (l ++ [x])=els l ++ [Enc.e x]:=by simp[els]
end
end Go.Proofs.YtpmacgnmlmmojaaGreatDoor
