/-
  Rules, data and contracts of functions: part 41 of the proof.
  Conditions: those that each theorem names.
-/
import Derived.Shelf.Strings.Builder1
import Derived.Test.YtpmacgnmlmmojaaGreatDoorDDRBRowk39
set_option linter.unusedSimpArgs false
set_option linter.unusedVariables false
set_option maxRecDepth 20000
set_option maxHeartbeats 8000000
namespace Go.Proofs.YtpmacgnmlmmojaaGreatDoor
section
open Go.Shelf Go.RowKit

structure AtB (t e:TypeId) (b:Nat) (p v:Value) (bs:List Value) (w:World):Prop where
 hb:w.heap[b]? = some (.cells #[p,v] t (0,0))
 hv:w.ownsRowF 0 e 1 v bs.length bs
 hn:v.ownBlock≠some b
theorem Keeps.refl (w:World) (fp:List Nat):Keeps w w fp:=⟨rfl,rfl,rfl,Gqf _,fun _ _ _=>rfl⟩
theorem Keeps.trans {w w1 w2:World} {a b c:List Nat} (h1:Keeps w w1 a) (h2:Keeps w1 w2 b) (ha:∀ x∈a,x∈c) (hb:∀ x∈b,x∈c∨w.heap.size≤x):Keeps w w2 c :=
 ⟨h2.os.trans h1.os,h2.tape.trans h1.tape,h2.output.trans h1.output,Gq8 h1.size h2.size,fun x hx hc=>(h2.block x (Gxv hx h1.size) fun hm=>(hb x hm).elim hc fun h=>absurd h (by omega)).trans (h1.block x hx fun hm=>hc (ha x hm))⟩
theorem keeps_set (w:World) (b j:Nat) (u:Value):Keeps w (w.setCell ⟨b,j,none⟩ u) [b] :=
 ⟨rfl,rfl,rfl,by simp[World.setCell],fun k _ hk=>Below.heap_setCell _ _ _ _ (by simpa using hk)⟩
theorem own_set {w:World} {e:TypeId} {v u:Value} {n:Nat} {xs:List Value} {b j:Nat} (h:w.ownsRowF 0 e 1 v n xs) (hn:v.ownBlock≠some b):(w.setCell ⟨b,j,none⟩ u).ownsRowF 0 e 1 v n xs :=
 h.kept (row:=some b) ⟨rfl,rfl,rfl,by simp[World.setCell],fun k _ hk=>Below.heap_setCell _ _ _ _ (fun e=>hk (by simp[e]))⟩ (.inr hn)
theorem freeze_at (w:World) (g n k:Nat) (hne:k≠g):(w.freeze ⟨g,0,none⟩ n).heap[k]? = w.heap[k]? := by
 unfold World.freeze
 split
 ·rfl
 ·simp only[Array.getElem?_modify]
  rw[if_neg (Ne.symm hne)]
section
variable {P:Program} {ρ:Ren}
theorem bl_check (L:Lays.n240 P ρ) (X:Builder.X72 P ρ) {e:TypeId} {b:Nat} {p v:Value} {bs:List Value} {w:World} (h:AtB (ρ.t 72) e b p v bs w) (hp:p = .pointer none∨p = .pointer (some ⟨b,0,none⟩)) :
  Calls P (ρ.f 240) #[.pointer (some ⟨b,0,none⟩)] w fun x w'=>x = .returned (.tuple #[])∧AtB (ρ.t 72) e b (.pointer (some ⟨b,0,none⟩)) v bs w'∧Keeps w w' [b]:=by
 rcases hp with rfl | rfl
 ·refine (Any.Builder_copyCheck_fresh L X b w (by simp[World.cell?,h.hb]) (by simp[World.shape?,h.hb]) (by simp[World.frozen?,h.hb])).mono ?_
  rintro x w' ⟨rfl,rfl⟩
  exact⟨J,⟨by simp[World.setCell,Array.getElem?_modify,h.hb],own_set h.hv h.hn,h.hn⟩,keeps_set w b 0 _⟩
 ·refine (Any.Builder_copyCheck_used L X b w (by simp[World.cell?,h.hb])).mono ?_
  rintro x w' ⟨rfl,rfl⟩
  exact⟨J,h,Keeps.refl _ _⟩
theorem app_exact {t u ty e:TypeId} {i:TypeInfo} (ht:P.underlying t=some (.slice e)) (hu:P.underlying u=some .string) (hi:P.info? e=some i) (hz:i.zero=some (.int .u8 0)) (hsize:i.size=1) (hby:i.bytes=1)
  {w:World} {v:Value} {n:Nat} {xs:List Value} (hown:w.ownsRowF 0 e 1 v n xs) (s:ByteArray) (hb:n+s.size≤140737488355328) :
  ∃ v' w',(Builtin.append_ #[t,u] ty #[v,.string s]).run P w = .ok v' w'∧w'.ownsRowF 0 e 1 v' (n+s.size) (xs++Lib.strCells s)∧w.grownBy w' v.ownBlock∧∀ g∈v'.ownBlock.toList,g∈v.ownBlock.toList∨w.heap.size≤g:=by
 have h63:n+s.size≤maxLen:=by unfold maxLen; omega
 obtain⟨v',w',h1,h2,h3,h4⟩:=Lib.run_append_own_stringF (P:=P) w 0 t u ty e i ht hu hi hz hsize hby v n xs hown s h63 hb (Gq2 _)
 refine⟨v',w',h1,h2,h3,?_⟩
 rcases hown.2 with ⟨rfl,rfl⟩ | ⟨g,cap,cur,fz,rfl,hbg,hg,hfz,hnc,hcm,hcs,htake⟩
 ·obtain⟨v2,w2,k1,k2,_,_⟩:=Lib.run_append_own_stringF (P:=P) w w.heap.size t u ty e i ht hu hi hz hsize hby (.slice none 0 0) 0 xs ⟨hown.1,.inl ⟨rfl,rfl⟩⟩ s h63 hb (Gqf _)
  rw[h1] at k1
  simp only[Result.ok.injEq] at k1
  obtain⟨rfl,rfl⟩:=k1
  intro x hx
  rcases k2.2 with ⟨rfl,_⟩ | ⟨g,cap,cur,fz,rfl,hbg,r⟩
  ·simp[Value.ownBlock] at hx
  ·simp[Value.ownBlock] at hx; subst hx; exact .inr hbg
 ·have hxl:xs.length=n:=by simpa using hown.1
  by_cases hroom:n+s.size≤cap
  ·have hr:=Lib.run_append_room_stringF (P:=P) (w:=w) t u ty e i ht hu hi hsize g n cap cur fz hg (by simpa using hfz) s hroom (by omega)
   rw[h1] at hr
   simp only[Result.ok.injEq] at hr
   obtain⟨rfl,rfl⟩:=hr
   intro x hx
   exact .inl hx
  ·have holds:∀ j u,xs[j]? = some u→w.cell? ((⟨g,0,none⟩:Addr).add j)=some u:=hown.cells (g:=g) rfl
   have hr:=Lib.run_append_grow_string (P:=P) (w:=w) t u ty e i (.int .u8 0) ht hu hi hz ⟨g,0,none⟩ n cap xs (by rw[hsize]; simpa using hxl) holds s (by omega) (by omega) (by rw[hby]; exact growslice_fits (by omega) (by omega))
   rw[h1] at hr
   simp only[Result.ok.injEq] at hr
   obtain⟨rfl,rfl⟩:=hr
   intro x hx
   simp[Value.ownBlock] at hx
   subst hx
   exact .inr (Gqf _)
theorem wpl_app {ops:Array Oper} {rest:List Oper} {o:Oper} {a:Act} {w:World} {Q:Exit→Act→World→Prop} (hgd:o.guard=none) (sl x:Operand) (t u:TypeId)
  (ho:o.op = .call { callee := .builtin .append,args:=#[sl,x],argTypes:=#[t,u] })
  (e:TypeId) (i:TypeInfo) (ht:P.underlying t=some (.slice e)) (hu:P.underlying u=some .string) (hi:P.info? e=some i) (hz:i.zero=some (.int .u8 0)) (hsize:i.size=1) (hby:i.bytes=1)
  (v:Value) (n:Nat) (xs:List Value) (hs:a.eval sl=v) (hown:w.ownsRowF 0 e 1 v n xs) (s:ByteArray) (hx:a.eval x = .string s) (hb:n+s.size≤140737488355328)
  (h:∀ v' w',w'.ownsRowF 0 e 1 v' (n+s.size) (xs++Lib.strCells s)→w.grownBy w' v.ownBlock→(∀ g∈v'.ownBlock.toList,g∈v.ownBlock.toList∨w.heap.size≤g)→wpList P ops Q rest (a.put o.dst v') w'):wpList P ops Q (o::rest) a w:=by
 refine wpList_plain hgd fun K hK => ?_
 obtain⟨v',w',hr,h2,h3,h4⟩:=app_exact (ty:=o.type) ht hu hi hz hsize hby hown s hb
 unfold Oper.wp execOp
 simp only[ho,resolve,invoke,builtin,Sem.run_bind,Sem.run_pure,Result.andThen_ok,List.map_toArray,List.map_cons,List.map_nil,hs,hx,hr]
 exact hK _ _ (h v' w' h2 h3 h4)
set_option maxRecDepth 100000 in
theorem bl_write (L:Lays.n166 P ρ) (X:Builder.Extra P ρ) {b:Nat} {p v:Value} {bs:List Value} {w:World} (s:ByteArray) (h:AtB (ρ.t 72) (ρ.t 5) b p v bs w) (hp:p = .pointer none∨p = .pointer (some ⟨b,0,none⟩)) (hlen:bs.length+s.size≤140737488355328) :
  Calls P (ρ.f 166) #[.pointer (some ⟨b,0,none⟩),.string s] w fun x w'=>x = .returned (.tuple #[.int .i64 s.size,.nilIface]) ∧
   ∃ v',AtB (ρ.t 72) (ρ.t 5) b (.pointer (some ⟨b,0,none⟩)) v' (bs++Lib.strCells s) w'∧Keeps w w' (b::v.ownBlock.toList)∧∀ g∈v'.ownBlock.toList,g∈v.ownBlock.toList∨w.heap.size≤g:=by
 obtain⟨i0,hi,hz0,hz1,hz2⟩:=info_parts X.infoByte
 have hbw:b<w.heap.size:=(Gzc.1 h.hb).1
 have mixed:=L.mixed
 have t72:=L.t72; have a72:=L.a72; have z72:=L.z72; have v72:=L.v72; have u72:=run_underlying L.t72
 have t70:=L.t70; have a70:=L.a70; have z70:=L.z70; have v70:=L.v70; have u70:=run_underlying L.t70
 have t37:=L.t37; have a37:=L.a37; have z37:=L.z37; have v37:=L.v37; have u37:=run_underlying L.t37
 have t3:=L.t3; have a3:=L.a3; have z3:=L.z3; have v3:=L.v3; have u3:=run_underlying L.t3
 have t9:=L.t9; have a9:=L.a9; have z9:=L.z9; have v9:=L.v9; have u9:=run_underlying L.t9
 have t4:=L.t4; have a4:=L.a4; have z4:=L.z4; have v4:=L.v4; have u4:=run_underlying L.t4
 have t164:=L.t164; have a164:=L.a164; have z164:=L.z164; have v164:=L.v164; have u164:=run_underlying L.t164
 have t5:=X.t5; have a5:=X.a5; have z5:=X.z5; have v5:=X.v5; have u5:=run_underlying X.t5
 have e240:∀ args w,(callFunc (ρ.f 240) args).run P w = .ok (.enter (ρ.f 240) args) w:=enters_of L.f240 (by kernel_rfl) rfl
 go_enter L.f166,Body.n166_ntmps ρ
 go_wp2_with (go_at_fn (ρ.f 240);refine (bl_check { L with } X.toX72 h hp).mono ?_)
 rintro x w1 ⟨rfl,h1,k1⟩
 have c1:w1.cell? ⟨b,1,none⟩=some v:=by rw[Lib.cell_of_heap h1.hb]; rfl
 go_wp2_with (at_builtin;refine wpl_app rfl _ _ (ρ.t 37) (ρ.t 9) rfl (ρ.t 5) i0 L.t37 L.t9 hi hz0 hz1 hz2 _ _ _ rfl h1.hv s rfl ?c4 ?_)
 case c4=>omega
 intro v' w2 hown' hgrow hnew
 have hlt:b<w1.heap.size:=(Gzc.1 h1.hb).1
 have hb2:w2.heap[b]? = some (.cells #[.pointer (some ⟨b,0,none⟩),v] (ρ.t 72) (0,0)):=(hgrow.block b hlt (fun e=>h.hn e.symm)).trans h1.hb
 have d1:w2.cell? ⟨b,1,none⟩=some v:=by rw[Lib.cell_of_heap hb2]; rfl
 have f1:w2.frozen? ⟨b,1,none⟩=false:=Lib.frozen_of_heap hb2 1
 obtain⟨ao,n',cap,rfl⟩:∃ ao n' cap,v' = .slice ao n' cap:=by
  rcases hown'.2 with ⟨hv,_⟩ | ⟨g,cap,cur,fz,hv,_⟩
  ·exact⟨_,_,_,hv⟩
  ·exact⟨_,_,_,hv⟩
 have hne':(Value.slice ao n' cap).ownBlock≠some b:=fun e=>by
  rcases hnew b (by rw[e]) with h5 | h5
  ·exact h.hn (by simpa using h5)
  ·omega
 go_wp2
 go_ret2
 have hl2:(bs++Lib.strCells s).length=bs.length+s.size:=by rw[Gqe,Lib.strCells_length]
 have k2:Keeps w1 w2 v.ownBlock.toList:=⟨hgrow.os,hgrow.tape,hgrow.output,hgrow.size,fun k hk hm=>hgrow.block k hk fun e=>hm (by rw[←e]; simp)⟩
 have k12:Keeps w w2 (b::v.ownBlock.toList):=k1.trans k2 (by simp) (fun x hx => .inl (Gq6 _ hx))
 refine⟨J,_,⟨by simp[World.setCell,Array.getElem?_modify,hb2],by rw[hl2]; exact own_set hown' hne',hne'⟩,k12.trans (keeps_set w2 b 1 _) (fun x hx=>hx) (fun x hx => .inl (by simp at hx; simp[hx])),fun g hg => ?_⟩
 rcases hnew g (by simpa using hg) with h6 | h6
 ·exact .inl (by simpa using h6)
 ·exact .inr (Gq8 k1.size h6)
set_option maxRecDepth 100000 in
theorem bl_string (L:Lays.n169 P ρ) (X:Builder.Extra P ρ) {b:Nat} {p v:Value} {l:List UInt8} {w:World} (h:AtB (ρ.t 72) (ρ.t 5) b p v (Lib.byteCells l) w) (h0:l ≠ []) :
  Calls P (ρ.f 169) #[.pointer (some ⟨b,0,none⟩)] w fun x w'=>x = .returned (.string ⟨l.toArray⟩)∧AtB (ρ.t 72) (ρ.t 5) b p v (Lib.byteCells l) w'∧Keeps w w' v.ownBlock.toList:=by
 have hl0:l.length≠0:=by simpa using h0
 have hown:=h.hv
 rw[Lib.byteCells_length] at hown
 have hbk:=h.hb
 rcases hown.2 with ⟨_,hz⟩ | ⟨g,cap,cur,fz,rfl,hbg,hg,hfz,hnc,hcm,hcs,htake⟩
 ·exact absurd hz hl0
 have c1:w.drew.cell? ⟨b,1,none⟩=some (.slice (some ⟨g,0,none⟩) l.length cap):=by
  have:w.drew.heap[b]? = some (.cells #[p,.slice (some ⟨g,0,none⟩) l.length cap] (ρ.t 72) (0,0)):=hbk
  rw[Lib.cell_of_heap this]; rfl
 have hSD:(Builtin.unsafeSliceData_ #[(ρ.t 37)] (ρ.t 127) #[.slice (some ⟨g,0,none⟩) l.length cap]).run P w.drew = .ok (.pointer (some ⟨g,0,none⟩)) w.drew :=
  Lib.run_unsafeSliceData_row _ _ _ _ _ _ (by omega)
 have hUS:(Builtin.unsafeString_ #[(ρ.t 127),(ρ.t 3)] (ρ.t 9) #[.pointer (some ⟨g,0,none⟩),.int .i64 l.length]).run P w.drew = .ok (.string ⟨l.toArray⟩) (w.drew.freeze ⟨g,0,none⟩ l.length):=by
  refine Lib.run_unsafeString_row w.drew (ρ.t 127) (ρ.t 3) (ρ.t 9) (ρ.t 5) L.t127 X.cellsByte g cur.size (by have hg':w.drew.heap[g]? = some (.cells cur (ρ.t 5) fz):=hg; simp[World.shape?,hg']) l h0 (by omega) (by unfold maxLen at hcm; omega) ?_
  intro j x hx
  have:=hown.cells (g:=g) rfl j (.int .u8 x.toNat) (by simp[Lib.byteCells,hx])
  exact this
 have hB:=Lib.below_freeze (Below.drew (Below.refl 0 w)) (p:=⟨g,0,none⟩) (Gq2 _) l.length
 have hk:Keeps w (w.drew.freeze ⟨g,0,none⟩ l.length) (Value.slice (some ⟨g,0,none⟩) l.length cap).ownBlock.toList :=
  ⟨hB.os,hB.tape,hB.output,hB.size,fun k _ hn=>by
   have hne:k≠g:=by simpa[Value.ownBlock] using hn
   exact freeze_at w.drew g l.length k hne⟩
 have hgb:b≠g:=fun e=>h.hn (by simp[Value.ownBlock,e])
 have hA:AtB (ρ.t 72) (ρ.t 5) b p (.slice (some ⟨g,0,none⟩) l.length cap) (Lib.byteCells l) (w.drew.freeze ⟨g,0,none⟩ l.length):=by
  have h1:Lib.BuilderAtF (ρ.t 72) (ρ.t 5) 0 b p (Lib.byteCells l) w.drew:=⟨Gq2 _,_,hbk,h.hv,h.hn⟩
  have hF:=h1.froze (g:=g) (cap:=cap) (by rw[Lib.byteCells_length]; exact c1)
  rw[Lib.byteCells_length] at hF
  obtain⟨_,v2,hb2,hv2,hn2⟩:=hF
  have hb3:(w.drew.freeze ⟨g,0,none⟩ l.length).heap[b]? = some (.cells #[p,.slice (some ⟨g,0,none⟩) l.length cap] (ρ.t 72) (0,0)):=(freeze_at w.drew g l.length b hgb).trans hbk
  have:v2 = .slice (some ⟨g,0,none⟩) l.length cap:=by
   have h4:=hb2.symm.trans hb3
   simp at h4
   exact h4
  subst this
  exact⟨hb3,hv2,hn2⟩
 have mixed:=L.mixed
 have t72:=L.t72; have a72:=L.a72; have z72:=L.z72; have v72:=L.v72; have u72:=run_underlying L.t72
 have t70:=L.t70; have a70:=L.a70; have z70:=L.z70; have v70:=L.v70; have u70:=run_underlying L.t70
 have t37:=L.t37; have a37:=L.a37; have z37:=L.z37; have v37:=L.v37; have u37:=run_underlying L.t37
 have t127:=L.t127; have a127:=L.a127; have z127:=L.z127; have v127:=L.v127; have u127:=run_underlying L.t127
 have t3:=L.t3; have a3:=L.a3; have z3:=L.z3; have v3:=L.v3; have u3:=run_underlying L.t3
 have t9:=L.t9; have a9:=L.a9; have z9:=L.z9; have v9:=L.v9; have u9:=run_underlying L.t9
 have t5:=X.t5; have a5:=X.a5; have z5:=X.z5; have v5:=X.v5; have u5:=run_underlying X.t5
 go_enter L.f169,Body.n169_ntmps ρ
 go_wp2
 go_region_o
 all_goals (go_wp2; go_ret; exact⟨rfl,hA,hk⟩)
end
end
section
open Go.Shelf Go.RowKit

section
variable {P:Program} {ρ:Ren} {w:World} {H:Hs} {F:Nat→Prop}
theorem own_nodup {b:Nat} {v:Value} (h:v.ownBlock≠some b):(b::v.ownBlock.toList).Nodup:=by
 cases e:v.ownBlock with
 |none=>simp
 |some g=>rw[e] at h; simp; intro h2; exact h (by rw[h2])
theorem C_write (L:Lays.n166 P ρ) (X:Builder.Extra P ρ) (l:List UInt8) (s:ByteArray) (hlen:l.length+s.size≤140737488355328) :
  Con P (ρ.f 166) [.bl (ρ.t 72) (ρ.t 5) l,.gh 0 (.c (.ref 0))] [.c (.ref 0),.c (.rd [] (.v (.string s)))] [.bl (ρ.t 72) (ρ.t 5) (l++s.data.toList),.gh 0 (.c (.ref 0))] (.tu [.c (.rd [] (.v (.int .i64 s.size))),.c (.rd [] (.v .nilIface))]):=by
 intro w H F vs hok hob hvl hr
 obtain⟨v,fp,e0⟩:=hob 0
 have hs:=hok.says 0
 rw[e0] at hs
 have hs:OW w (.bl (ρ.t 72) (ρ.t 5) l) v fp:=hs
 cases hs with
 | bl _ _ _ b p v hb hp hv hn =>
  obtain⟨u0,u1,rfl⟩:∃ a b,vs = [a,b]:=by
   match vs,hvl with
   | [a,b],_=>exact⟨a,b,rfl⟩
  have h0:R2 w H F (.c (.ref 0)) u0:=hr 0 _ _ J J
  obtain⟨x,fp',e1⟩:=h0
  rw[e0] at e1
  simp only[Pc.ow.injEq] at e1
  obtain⟨_,rfl,_⟩:=e1
  have h1:R2 w H F (.c (.rd [] (.v (.string s)))) u1:=hr 1 _ _ J J
  obtain⟨rfl,_⟩:=RO.plain h1
  refine (bl_write L X s (bs:=l.map fun c=>Value.int .u8 c.toNat) ⟨hb,by rw[List.length_map]; exact hv,hn⟩ hp (by rw[List.length_map]; exact hlen)).mono ?_
  rintro x w' ⟨rfl,v',hA,hk,hnew⟩
  have hcs:(l.map fun c=>Value.int .u8 (c.toNat:Int))++Lib.strCells s=(l++s.data.toList).map fun c=>Value.int .u8 (c.toNat:Int):=by rw[List.map_append]; rfl
  have hA2:=hA.hv
  rw[hcs,List.length_map] at hA2
  obtain⟨hok',ht⟩:=hok.turn (p:=0) (fp:=b::v.ownBlock.toList) (by rw[e0]; rfl) hk (.ow (.bl (ρ.t 72) (ρ.t 5) (l++s.data.toList)) (.pointer (some ⟨b,0,none⟩)) (b::v'.ownBlock.toList)) (.bl _ _ _ b _ v' hA.hb (.inr rfl) hA2 hA.hn) (own_nodup hA.hn) trivial (fun g hg=>by
   rcases List.mem_cons.1 hg with rfl | hg
   ·exact .inl (List.mem_cons_self ..)
   ·exact (hnew g hg).imp (Gq6 _) id)
  refine⟨_,F,_,J,(Since.refl w H F).turn ht,hok',fun p => ?_,⟨[.int .i64 s.size,.nilIface],J,J,fun i x u h2 h3 => ?_⟩⟩
  ·cases p with
   |zero=>exact⟨_,_,Hs.put_self _ _ _⟩
   | succ p=>cases p with
    |zero =>
     obtain⟨v1,e2,x2,fp2,e3⟩:=hob 1
     rw[e0] at e3
     simp only[Pc.ow.injEq] at e3
     obtain⟨_,hv1,_⟩:=e3
     exact⟨v1,(Hs.put_ne _ _ (by omega)).trans e2,_,_,by rw[←hv1]; exact Hs.put_self _ _ _⟩
    |succ p =>
     show H.put 0 _ (p+1+1) = .nil
     rw[Hs.put_ne _ _ (by omega)]
     exact hob (p+1+1)
  ·match i with
   |0=>simp at h2 h3; subst h2 h3; exact RO.v _ rfl
   |1=>simp at h2 h3; subst h2 h3; exact RO.v _ rfl
   |i+2=>simp at h2
theorem C_string (L:Lays.n169 P ρ) (X:Builder.Extra P ρ) (l:List UInt8) (h0:l ≠ []) :
  Con P (ρ.f 169) [.bl (ρ.t 72) (ρ.t 5) l] [.c (.ref 0)] [.bl (ρ.t 72) (ρ.t 5) l] (.o (.c (.rd [] (.v (.string ⟨l.toArray⟩))))):=by
 intro w H F vs hok hob hvl hr
 obtain⟨v,fp,e0⟩:=hob 0
 have hs:=hok.says 0
 rw[e0] at hs
 have hs:OW w (.bl (ρ.t 72) (ρ.t 5) l) v fp:=hs
 cases hs with
 | bl _ _ _ b p v hb hp hv hn =>
  obtain⟨u0,rfl⟩:∃ a,vs = [a]:=by
   match vs,hvl with
   | [a],_=>exact⟨a,rfl⟩
  have h0':R2 w H F (.c (.ref 0)) u0:=hr 0 _ _ J J
  obtain⟨x,fp',e1⟩:=h0'
  rw[e0] at e1
  simp only[Pc.ow.injEq] at e1
  obtain⟨_,rfl,_⟩:=e1
  refine (bl_string L X (l:=l) ⟨hb,by rw[Lib.byteCells_length]; exact hv,hn⟩ h0).mono ?_
  rintro x w' ⟨rfl,hA,hk⟩
  have hA2:=hA.hv
  rw[Lib.byteCells_length] at hA2
  obtain⟨hok',ht⟩:=hok.turn (p:=0) (fp:=b::v.ownBlock.toList) (by rw[e0]; rfl) ⟨hk.os,hk.tape,hk.output,hk.size,fun k h1 h2=>hk.block k h1 fun h3=>h2 (Gq6 _ h3)⟩ (.ow (.bl (ρ.t 72) (ρ.t 5) l) (.pointer (some ⟨b,0,none⟩)) (b::v.ownBlock.toList)) (.bl _ _ _ b p v hA.hb hp hA2 hA.hn) (own_nodup hA.hn) trivial (fun g hg => .inl hg)
  refine⟨_,F,_,J,(Since.refl w H F).turn ht,hok',fun p => ?_,RO.v _ J⟩
  cases p with
  |zero=>exact⟨_,_,Hs.put_self _ _ _⟩
  |succ p =>
   show H.put 0 _ (p+1) = .nil
   rw[Hs.put_ne _ _ (by omega)]
   exact hob (p+1)
end
section
variable {P:Program} {E:Env} {ops:Array Oper} {o:Oper} {st:St} {n:Nat} {t:TypeId} {y:Operand}
theorem q_allocB (e:TypeId) [hz:TyZero P t [.pointer none,.slice none 0 0]] (ho:o.op = .alloc t) (hg:o.guard=none):Qt P ops o st (.o (.c (.ref n))) [.bl t e []] n :=
 .new hg fun a w H F hr hn=>by
  obtain⟨zv,hzv,hzc⟩:=run_zeroValue (P:=P) (w:=w) t (zs := [.pointer none,.slice none 0 0])
  refine⟨.pointer (some ⟨w.heap.size,0,none⟩),w.alloc (.cells [.pointer none,.slice none 0 0].toArray t),.ow (.bl t e []) (.pointer (some ⟨w.heap.size,0,none⟩)) [w.heap.size],?_,(Below.refl _ _).alloc (Gqf _) _,.bl t e [] w.heap.size (.pointer none) (.slice none 0 0) (heap_alloc_new w _) (.inl J) ⟨J,.inl ⟨J,J⟩⟩ (by simp[Value.ownBlock]),by simp[Pc.fp,Pc.ng],fun b hb=>by simp[Pc.fp] at hb; omega,fun H' hgr hq=>⟨⟨_,_,hq⟩,_,_,hq⟩⟩
  unfold execOp
  simp only[ho,Instr.alloc,Sem.run_bind,hzv,Result.andThen_ok,newVar,newRow,hzc]
  rfl
end
end
section
open Go.RowKit

theorem repE {x:TReplay} (hg:Enc.gd x) (hw:Enc.wt x≤1048576) (h:replayOk x=true):RepE x:=by
 have h0:Enc.wt x=(x.Level.Rows.length+wts x.Level.Rows)+(x.Rows.length+wts x.Rows)+(x.Keys.length+wts x.Keys):=rfl
 unfold replayOk at h
 simp only[Gqg,decide_eq_true_eq,Zn] at h
 obtain⟨⟨⟨⟨⟨⟨h1,h2⟩,h3⟩,h4⟩,h5⟩,h6⟩,h7⟩:=h
 have hj:=joinB_size x.Level.Rows slashB
 have h8:slashB.size=1:=rfl
 rw[h8] at hj
 have hk:(x.Rows.length:Int)/x.Every≤x.Rows.length:=Int.ediv_le_self _ (by omega)
 refine⟨hg,h1,?_,by omega,h2,by omega,fun r hr => ?_,by omega,fun k hk => ?_⟩
 ·show x.Level.Rows.length+wts x.Level.Rows≤_; omega
 ·have h9:=Gqk.1 h6 r hr
  rw[rowOk,Gqg,decide_eq_true_eq] at h9
  exact h9.1
 ·have h9:=wts_le x.Keys k hk
  have:Enc.wt k=k.size:=rfl
  omega
theorem I_FormatLv (x:TLevel) (hg:Enc.gd x) (hw:Enc.wt x≤1073741824) (ho:levelOk x=true):Con Tryz.prog 65 [] [ag x] [] (S (joinB x.Rows slashB)):=by
 have hl:=Xt x hg
 have h0:Enc.wt x=x.Rows.length+wts x.Rows:=rfl
 have h1:=joinB_size x.Rows slashB
 have h2:slashB.size=1:=rfl
 rw[h2] at h1
 have hj:=I_Join x.Rows slashB (by omega) (by rw[joinB_len]; omega)
 rw[ho] at hl
 refine Con.of Tryz.func65 J Tryz.ntmps65 J (fun E => ?_)
 refine Wz [55,23,6] ?_;refine zx (Qj J J (hl) J) J ?_;refine Wz [16,38,14] ?_;refine zx (Qj J J (hj) J) J ?_;refine Wz [19] ?_
 exact Gq J (Gr [] J J J)
instance:FunOk Tryz.prog 63:=⟨by kernel_rfl⟩
instance:FunOk Tryz.prog 69:=⟨by kernel_rfl⟩
abbrev blR:=Tryz.lays156_ren
@[reducible] def BL (a:ByteArray):Ob := .bl (blR.t 72) (blR.t 5) a.data.toList
theorem B_write0 (s:ByteArray) (h:s.size≤140737488355328):Con Tryz.prog 63 [.bl (blR.t 72) (blR.t 5) [],.gh 0 (.c (.ref 0))] [.c (.ref 0),astr s] [BL s,.gh 0 (.c (.ref 0))] (.tu [.c (.rd [] (.v (.int .i64 s.size))),.c (.rd [] (.v .nilIface))]):=C_write (ρ:=Tryz.lays156_ren) { Tryz.lays156 with } Tryz.Builder_Extra_156 [] s (by simpa using h)
theorem B_write (a s:ByteArray) (h:a.size+s.size≤140737488355328):Con Tryz.prog 63 [BL a,.gh 0 (.c (.ref 0))] [.c (.ref 0),astr s] [BL (a++s),.gh 0 (.c (.ref 0))] (.tu [.c (.rd [] (.v (.int .i64 s.size))),.c (.rd [] (.v .nilIface))]):=by
 have:=C_write (ρ:=Tryz.lays156_ren) { Tryz.lays156 with } Tryz.Builder_Extra_156 a.data.toList s (by simpa using h)
 rw[←Gxx,←Gxo] at this
 exact this
theorem B_string (a:ByteArray) (h:0<a.size):Con Tryz.prog 69 [BL a] [.c (.ref 0)] [BL a] (S a) :=
 C_string (ρ:=Tryz.lays156_ren) { Tryz.lays156 with } Tryz.Builder_Extra_156 a.data.toList fun e=>by
  have h2:a.data.toList.length=a.size:=by simp
  rw[e] at h2
  have h3:([]:List UInt8).length=0:=rfl
  omega
theorem encVar_ne (n:Nat) (h:n≤1099511627775):0<(bs (encVar (n:Int))).size:=by
 rw[Ys,encVar,if_pos ⟨by omega,by omega⟩]
 exact (varN_len _).1
theorem packText_pos (s:ByteArray) (h:s.size≤1099511627775):0<(packText s).size:=by
 have:=encVar_ne s.size h
 rw[packText,Yy]
 omega
theorem BL2 {o:Ob} {a b:ByteArray} (h:a=b) : [o,BL a] = [o,BL b]:=by rw[h]
theorem I_EncR (r:TReplay) (hRE:RepE r) (ho:replayOk r=true):Con Tryz.prog 20 [] [ag r] [] (S (encodeReplay r)):=by
 rw[encodeReplay,if_pos ho]
 obtain⟨hg,hlv,hwt,htx,hpl,hrl,hrw,hkl,hks⟩:=hRE
 have cok:=Xv r hg
 rw[ho] at cok
 obtain⟨gL,gP,gS,gE,gR,gK⟩:=hg
 have hlr:=Y9 r.Rows
 have hlk:=Y9 r.Keys
 obtain⟨p,hp⟩:∃ p:Nat,(p:Int)=r.Players:=⟨r.Players.toNat,by omega⟩
 have cfl:=I_FormatLv r.Level gL hwt hlv
 have cpt:=Xu (joinB r.Level.Rows slashB) (by omega)
 have hgi:Enc.gd [r.Players,r.Seed,r.Every,((els r.Rows).length:Int)]:=⟨by simp,fun x hx=>by
  simp only[List.mem_cons,Gxp,or_false] at hx
  rcases hx with rfl | rfl | rfl | rfl
  ·exact gP
  ·exact gS
  ·exact gE
  ·exact⟨by omega,by omega⟩⟩
 have cpi:=I_PackInts [r.Players,r.Seed,r.Every,((els r.Rows).length:Int)] hgi (by simp)
 have cpc:=I_packColumns r.Rows p gR hrl (by omega) (fun x hx=>by have:=hrw x hx; omega)
 rw[hp] at cpc
 have hs0:=Z4 (joinB r.Level.Rows slashB)
 have hs1:=packInts_size [r.Players,r.Seed,r.Every,((els r.Rows).length:Int)]
 simp only[Gqt,List.length_nil] at hs1
 have hs2:=colsB_size r.Rows p
 have henc:encB r=((packText (joinB r.Level.Rows slashB)++packInts [r.Players,r.Seed,r.Every,((els r.Rows).length:Int)])++colsB r.Rows p)++keysB r.Keys r.Keys.length:=by rw[encB,hlr,show r.Players.toNat=p by omega]
 rw[henc]
 generalize hA:packText (joinB r.Level.Rows slashB)=A at cpt hs0 ⊢
 generalize hB:packInts [r.Players,r.Seed,r.Every,((els r.Rows).length:Int)]=M at cpi hs1 ⊢
 generalize hC:colsB r.Rows p=C at cpc hs2 ⊢
 have hcA:=Yy A M
 have hcB:=Yy (A++M) C
 have hApos:0<A.size:=by rw[←hA]; exact packText_pos _ (by omega)
 have w1:=B_write0 A (by omega)
 have w2:=B_write A M (by omega)
 have w3:=B_write (A++M) C (by omega)
 refine Con.of Tryz.func20 J Tryz.ntmps20 J (fun E => ?_)
 refine Wz [55,23,6] ?_;refine zx (Qj J J (cok) J) J ?_;refine Wz [16,38,1] ?_;refine V6 (q_allocB (blR.t 5) J J) J ?_;refine Wz [2,82] ?_;refine zx (Qj J J (cfl) J) J ?_;refine zx (Qj J J (cpt) J) J ?_;refine X6 (lo := [_]) (gs := [(0,.c (.ref 0))]) (lo' := [_]) (new := []) [1] [(0,0,.ref 0)] (w1) J J J J J J J J J J J J J J J J J ?_;refine Wz [2,14,146,30,21,45] ?_;refine zx (Qj J J (cpi) J) J ?_;refine X6 (lo := [_]) (gs := [(0,.c (.ref 0))]) (lo' := [_]) (new := []) [1] [(0,0,.ref 0)] (w2) J J J J J J J J J J J J J J J J J ?_;refine Wz [2,14,30] ?_;refine zx (Qj J J (cpc) J) J ?_;refine X6 (lo := [_]) (gs := [(0,.c (.ref 0))]) (lo' := [_]) (new := []) [1] [(0,0,.ref 0)] (w3) J J J J J J J J J J J J J J J J J ?_;refine Wz [39,14,21,131,33] ?_
 obtain⟨X,hX⟩:∃ X,X=A++M++C:=⟨_,rfl⟩
 have hX0:X++keysB r.Keys 0=X:=by rw[show keysB r.Keys 0=bs [] from rfl,app_nilB]
 refine AWP.pre (st':=(⟨_,[(1,.o (.c (.ptr 0 0))),(3,.o (.c (.ref 1))),(33,L r.Keys),(34,I (els r.Keys).length),(35,I 0)],[.box ((Enc.e r).map (V1.rd [])),BL (A++M++C)]⟩:St)) ?_ (Gs [0,1])
 rw[←hX] at hcB ⊢
 refine Xi (fun m st=>∃ q:Nat,q+m=r.Keys.length∧(True)∧st=(⟨_,[(1,.o (.c (.ptr 0 0))),(3,.o (.c (.ref 1))),(33,L r.Keys),(34,I (els r.Keys).length),(35,I q)],[.box ((Enc.e r).map (V1.rd [])),BL (X++keysB r.Keys q)]⟩:St)) (r.Keys.length) ⟨(fun q:Nat=>(⟨_,[(1,.o (.c (.ptr 0 0))),(3,.o (.c (.ref 1))),(33,L r.Keys),(34,I (els r.Keys).length),(35,I q)],[.box ((Enc.e r).map (V1.rd [])),BL (X++keysB r.Keys q)]⟩:St)) 0,⟨0,by omega,trivial,J⟩,Yg [0,1] (by decide) J ((by exact BL2 hX0)) (.c J (.c J (.c J (.c J (.c J (.nil))))))⟩ ?_
 rintro m_D _ ⟨q,hk_D,hp_D,rfl⟩
 have hs8:=Yy X (keysB r.Keys q)
 by_cases hq:q<r.Keys.length
 ·have f1:decide ((q:Int)<(els r.Keys).length)=true:=Gqb (by omega)
  have hs9:=keysB_size r.Keys hks q (by omega)
  have hat:=Y7 hq
  have hkd:r.Keys.getD q ⟨#[]⟩=r.Keys[q]:=by simp[Gqc,hq]
  have hk1:=hks _ (Gql hq)
  have c4:=Xu r.Keys[q] (by omega)
  have hs10:=Z4 r.Keys[q]
  have hq400:(1048576+6)*q≤1048582*400:=Nat.mul_le_mul_left _ (by omega)
  have w4:=B_write (X++keysB r.Keys q) (packText r.Keys[q]) (by omega)
  have hnx:X++keysB r.Keys (q+1)=X++keysB r.Keys q++packText r.Keys[q]:=by rw[keysB,hkd,ByteArray.append_assoc]
  refine Wz [1,5,39,65,26,1,49,11,22] ?_;refine zx (Qj J J (c4) J) J ?_;refine X6 (lo := [_]) (gs := [(0,.c (.ref 0))]) (lo' := [_]) (new := []) [1] [(0,0,.ref 0)] (w4) J J J J J J J J J J J J J J J J J ?_;refine Wz [74,64] ?_
  exact⟨r.Keys.length-(q+1),by omega,(fun q:Nat=>(⟨_,[(1,.o (.c (.ptr 0 0))),(3,.o (.c (.ref 1))),(33,L r.Keys),(34,I (els r.Keys).length),(35,I q)],[.box ((Enc.e r).map (V1.rd [])),BL (X++keysB r.Keys q)]⟩:St)) (q+1),⟨q+1,by omega,trivial,J⟩,Yg [0,1] (by decide) J ((by exact BL2 hnx)) (.c J (.c J (.c J (.c J (.c J (.nil))))))⟩
 have f1:decide ((q:Int)<(els r.Keys).length)=false:=Gqa (by omega)
 have hqk:q=r.Keys.length:=by omega
 subst hqk
 have hs9:=keysB_size r.Keys hks r.Keys.length (Gqf _)
 have hq400:(1048576+6)*r.Keys.length≤1048582*400:=Nat.mul_le_mul_left _ (by omega)
 have c5:=B_string (X++keysB r.Keys r.Keys.length) (by omega)
 have cse:=I_SealText (X++keysB r.Keys r.Keys.length) (by omega)
 refine Wz [1,5,39,175,40,1] ?_;refine X6 (lo := [_]) (gs := []) (lo' := [_]) (new := []) [1] [] (c5) J J J J J J J J J J J J J J J J J ?_;refine zx (Qj J J (cse) J) J ?_;refine Wz [19] ?_
 exact Gq J (Gr [] J J J)
end
section
open Go.RowKit

theorem lv_back:∀ i,i<5→parseLv (joinB (parseL (lvT i)).Rows slashB)=parseL (lvT i)∧(joinB (parseL (lvT i)).Rows slashB).size≤1000∧Enc.wt (parseL (lvT i))≤2000:=by
 intro i hi
 match i,hi with
 |0,_=>exact⟨by kernel_rfl,Gqq (by kernel_rfl),Gqq (by kernel_rfl)⟩
 |1,_=>exact⟨by kernel_rfl,Gqq (by kernel_rfl),Gqq (by kernel_rfl)⟩
 |2,_=>exact⟨by kernel_rfl,Gqq (by kernel_rfl),Gqq (by kernel_rfl)⟩
 |3,_=>exact⟨by kernel_rfl,Gqq (by kernel_rfl),Gqq (by kernel_rfl)⟩
 |4,_=>exact⟨by kernel_rfl,Gqq (by kernel_rfl),Gqq (by kernel_rfl)⟩
theorem rl_back (b:List UInt8) (c:Cu):parseLv (joinB (rlD b c).1.Rows slashB)=(rlD b c).1∧(joinB (rlD b c).1.Rows slashB).size≤1000∧Enc.wt (rlD b c).1≤2000:=by
 have r:=Yo (b:=b) (n:=5) (c:=c) (by omega)
 exact lv_back (belowC b 5 c).1.toNat (by omega)
section
variable {l:TLevel} {n:Nat} {seed:Int} {e:Nat} {rows:List (List Int)}
theorem keysK_take {c k:Nat} (h:k≤c):(keysK l n seed e rows c).take k=keysK l n seed e rows k:=by
 rw[keysK,←List.map_take,List.take_range,Nat.min_eq_left h]
 rfl
theorem RD.cut (h:RD l n seed e rows) {m:Nat} (hm:m≤rows.length):cutOk (replK l n seed e rows rows.length) m=true∧cutReplay (replK l n seed e rows rows.length) m=replK l n seed e rows m:=by
 have ho:=h.ok (Gqf rows.length)
 have hl:(replK l n seed e rows rows.length).Rows.length=rows.length:=by show (rows.take rows.length).length=_; rw[Gq1]
 have h1:cutOk (replK l n seed e rows rows.length) m=true:=by
  rw[cutOk,ho,Gqb (show (0:Int)≤(m:Int)∧(m:Int)≤((replK l n seed e rows rows.length).Rows.length:Int) by rw[hl]; omega)]
  rfl
 refine⟨h1,?_⟩
 rw[cutReplay,if_pos h1]
 show TReplay.mk l n seed e ((rows.take rows.length).take (m:Int).toNat) ((keysK l n seed e rows (rows.length/e)).take ((m:Int)/(e:Int)).toNat)=⟨l,n,seed,e,rows.take m,keysK l n seed e rows (m/e)⟩
 rw[Gq1,Int.toNat_natCast,show ((m:Int)/(e:Int)).toNat=m/e by rw[←Int.natCast_ediv,Int.toNat_natCast],keysK_take (Nat.div_le_div_right hm)]
theorem RD.addsG_ (h:RD l n seed e rows) {a b:Nat} {sub:List (List Int)} (hs:∀ j,j<b→sub[j]? = rows[a+j]?) (hab:a+b≤rows.length):∀ j,j≤b→addsG (replK l n seed e rows a) sub j=some (replK l n seed e rows (a+j))
 |0,_=>rfl
 |j+1,hj=>by
  have hr:rows[a+j]? = some (rows[a+j]'(by omega)):=Gqd (by omega)
  have ha:=h.add hr
  rw[adds_go (RD.addsG_ h hs hab j (by omega)) ((hs j (by omega)).trans hr) (by rw[ha]),ha]
  rfl
theorem RD.adds0 (h:RD l n seed e rows) {m:Nat} (hm:m≤rows.length):addsM (replK l n seed e rows 0) (rows.take m)=(replK l n seed e rows m,true):=by
 refine adds_T ?_
 have h1:=h.addsG_ (a:=0) (b:=m) (sub:=rows.take m) (fun j hj=>by rw[Gxj,Gxi,if_pos hj]) (by omega) m (Gqf _)
 rw[show (rows.take m).length=m by rw[Gqx]; omega]
 rwa[Gxj] at h1
theorem RD.addsR (h:RD l n seed e rows) {m:Nat} (hm:m≤rows.length):addsM (replK l n seed e rows m) (rows.drop m)=(replK l n seed e rows rows.length,true):=by
 refine adds_T ?_
 have h1:=h.addsG_ (a:=m) (b:=rows.length-m) (sub:=rows.drop m) (fun j hj=>by rw[Gq5]) (by omega) (rows.length-m) (Gqf _)
 rw[Gq0]
 rwa[show m+(rows.length-m)=rows.length by omega] at h1
theorem RD.repE (h:RD l n seed e rows) (gr:Enc.gd rows) (hw:Enc.wt l≤2000) (ht:(joinB l.Rows slashB).size≤1000):RepE (replK l n seed e rows rows.length):=by
 have h1:=h.rep gr (Gqf rows.length)
 have hL:=h.hL
 have hn:=h.hn
 have hk:(replK l n seed e rows rows.length).Keys.length=rows.length/e:=Zs _
 have hk2:=Nat.div_le_self rows.length e
 have hr:(replK l n seed e rows rows.length).Rows=rows:=Gq1
 refine⟨h1.1.gd,h.hl,by show Enc.wt l≤_; omega,by show (joinB l.Rows slashB).size≤_; omega,⟨by show (1:Int)≤n; omega,by show (n:Int)≤4; omega⟩,by rw[hr]; omega,fun x hx => ?_,by omega,h1.2⟩
 rw[hr] at hx
 have h3:=h.hr x hx
 rw[rowOk,Gqg,decide_eq_true_eq] at h3
 exact h3.1
theorem RD.bytes (h:RD l n seed e rows) (hL:rows.length≤24) (ht:(joinB l.Rows slashB).size≤1000):4≤(encodeReplay (replK l n seed e rows rows.length)).size∧(encodeReplay (replK l n seed e rows rows.length)).size≤8000000:=by
 have ho:=h.ok (Gqf rows.length)
 have hn:=h.hn
 obtain⟨r,hr⟩:∃ r,r=replK l n seed e rows rows.length:=⟨_,rfl⟩
 have hp:r.Players.toNat=n:=by rw[hr]; show ((n:Nat):Int).toNat=n; omega
 have hkl:r.Keys.length=rows.length/e:=by rw[hr]; exact Zs _
 have hk2:=Nat.div_le_self rows.length e
 have hks:∀ x∈r.Keys,x.size≤260006:=fun x hx=>by
  rw[hr] at hx
  obtain⟨j,_,rfl⟩:=Gqr.1 (show x∈(List.range (rows.length/e)).map _ from hx)
  have h5:=Y4 (worldBytes (lockW l n seed rows (j*e))) (worldBytes (lockW l n seed rows ((j+1)*e)))
  have h6:=Yx (lockW l n seed rows ((j+1)*e))
  omega
 have hl:(joinB r.Level.Rows slashB).size≤1000:=by rw[hr]; exact ht
 rw[←hr] at ho ⊢
 rw[encodeReplay,if_pos ho,sealText_size]
 have h1:=Z4 (joinB r.Level.Rows slashB)
 have h2:=packInts_size [r.Players,r.Seed,r.Every,(r.Rows.length:Int)]
 simp only[Gqt,List.length_nil] at h2
 have h3:=colsB_size r.Rows r.Players.toNat
 have h4:=keysB_size r.Keys hks r.Keys.length (Gqf _)
 have h5:(260006+6)*r.Keys.length≤260012*24:=Nat.mul_le_mul_left _ (by omega)
 have h6:(encB r).size=(packText (joinB r.Level.Rows slashB)).size+(packInts [r.Players,r.Seed,r.Every,(r.Rows.length:Int)]).size+(colsB r.Rows r.Players.toNat).size+(keysB r.Keys r.Keys.length).size:=by rw[encB,Yy,Yy,Yy]
 rw[hp] at h3 h6
 omega
theorem RD.back (h:RD l n seed e rows) (gr:Enc.gd rows) (hlv:parseLv (joinB l.Rows slashB)=l) (ht:(joinB l.Rows slashB).size≤1000):drI (encodeReplay (replK l n seed e rows rows.length))=some (replK l n seed e rows rows.length) :=
 dr_back (h.ok (Gqf _)) hlv (by show (joinB l.Rows slashB).size≤_; omega) fun x hx=>by
  have:=(h.rep gr (Gqf rows.length)).2 x hx
  omega
end
/-! ### One byte is another one -/
def flipB (s:ByteArray) (k:Nat) (x:Int):ByteArray:=s.extract 0 k++bs [UInt8.ofNat x.toNat]++s.extract (k+1) s.size
theorem flipB_list {s:ByteArray} {k:Nat} (hk:k<s.size) (x:Int):(flipB s k x).data.toList=s.data.toList.set k (UInt8.ofNat x.toNat):=by
 have hl:s.data.toList.length=s.size:=by simp
 have h1:(s.extract 0 k).data.toList=s.data.toList.take k:=by
  rw[ByteArray.data_extract,Array.toList_extract]
  simp[List.extract_eq_take_drop]
 have h2:(s.extract (k+1) s.size).data.toList=s.data.toList.drop (k+1):=by
  rw[ByteArray.data_extract,Array.toList_extract,List.extract_eq_take_drop]
  exact Gxk (by rw[Gq0,hl]; omega)
 show (s.extract 0 k++bs [UInt8.ofNat x.toNat]++s.extract (k+1) s.size).data.toList=_
 rw[Gxo,Gxx,Gxo,Gxx,h1,h2,Yr]
 rw[List.set_eq_take_append_cons_drop,if_pos (show k<s.data.toList.length by omega)]
 simp
theorem flip_open {t:ByteArray} {k:Nat} (hk:k<(sealText t).size) {y:Int} (h0:1≤y∧y≤255):openText (flipB (sealText t) k (((byteAt (sealText t) k).toNat^^^y.toNat:Nat):Int))=none:=by
 obtain⟨c,h1,h2⟩:=Yt hk
 have hc:=c.toNat_lt
 refine flip_none (flipB_list hk _) h1 fun e => ?_
 have h3:=congrArg UInt8.toNat e
 rw[h2,Int.toNat_natCast,UInt8.toNat_ofNat',Int.toNat_natCast] at h3
 have h4:c.toNat^^^y.toNat<2 ^ 8:=Nat.xor_lt_two_pow hc (by omega)
 rw[Nat.mod_eq_of_lt h4] at h3
 have h5:(c.toNat^^^y.toNat)^^^c.toNat=y.toNat:=by rw[Nat.xor_comm c.toNat,Nat.xor_assoc,Nat.xor_self,Nat.xor_zero]
 rw[h3,Nat.xor_self] at h5
 omega
theorem flipB_size {s:ByteArray} {k:Nat} (hk:k<s.size) (x:Int):(flipB s k x).size=s.size:=by
 have h1:=congrArg List.length (flipB_list hk x)
 rw[Gxm] at h1
 simpa using h1
end
section
open Go.RowKit

@[reducible] def nilR:V1 := .rd [] (.v (.slice none 0 0))
def zeroR:TReplay:=⟨⟨[]⟩,0,0,0,[],[]⟩
def drV:Option TReplay→TReplay
 |none=>zeroR
 |some r=>r
def drB:Option TReplay→Bool
 |none=>false
 |some _=>true
section
variable {t s tx:ByteArray} {a b e e':Nat} {l:List Int} {h0 h1 h2 h3:Int} {rows:List (List Int)} {keys:List ByteArray}
theorem dr_open (h:openText t=none):drI t=none∧drS t=none:=by rw[drI,drS,h]; exact⟨rfl,rfl⟩
theorem dr_body (h:openText t=some s) (hb:drBody s=none):drI t=none∧drS t=none:=by rw[drI,drS,h]; simp only[]; rw[hb]; exact⟨rfl,rfl⟩
theorem drI_end {r:TReplay} (h:openText t=some s) (hb:drBody s=some (r,e)):drI t=if e=s.size∧replayOk r=true then some r else none:=by rw[drI,h]; simp only[]; rw[hb]
theorem db1 (hu:unpackText s 0=none):drBody s=none:=by rw[drBody,hu]
theorem db2 (hu:unpackText s 0=some (tx,a)) (hl:levelOk (parseLv tx)=false):drBody s=none:=by rw[drBody,hu]; simp only[]; rw[if_neg (by rw[hl]; exact Gx0)]
theorem db3 (hu:unpackText s 0=some (tx,a)) (hi:unpackInts s a=none):drBody s=none:=by
 rw[drBody,hu]; simp only[]; rw[hi]; split <;> rfl
theorem db4 (hu:unpackText s 0=some (tx,a)) (hi:unpackInts s a=some (l,b)) (h:¬l.length=4):drBody s=none:=by
 rw[drBody,hu]; simp only[]; rw[hi]
 split
 ·split
  ·rename_i he
   simp only[Option.some.injEq,Prod.mk.injEq] at he
   obtain⟨rfl,_⟩:=he
   simp at h
  ·rfl
 ·rfl
theorem db5 (hu:unpackText s 0=some (tx,a)) (hi:unpackInts s a=some ([h0,h1,h2,h3],b)) (h:¬headOk h0 h2 h3):drBody s=none:=by
 rw[drBody,hu]; simp only[]; rw[hi]; simp only[]; rw[if_neg h]; split <;> rfl
theorem db6 (hu:unpackText s 0=some (tx,a)) (hi:unpackInts s a=some ([h0,h1,h2,h3],b)) (hc:colsGo s h3.toNat h0.toNat (a+b) (List.replicate h3.toNat [])=none):drBody s=none:=by
 rw[drBody,hu]; simp only[]; rw[hi]; simp only[]; rw[hc]; simp only[]
 split
 ·split <;> rfl
 ·rfl
theorem db7 (hu:unpackText s 0=some (tx,a)) (hi:unpackInts s a=some ([h0,h1,h2,h3],b)) (hc:colsGo s h3.toNat h0.toNat (a+b) (List.replicate h3.toNat [])=some (rows,e)) (hk:keysGo s (h3/h2).toNat e []=none):drBody s=none:=by
 rw[drBody,hu]; simp only[]; rw[hi]; simp only[]; rw[hc]; simp only[]; rw[hk]; simp only[]
 split
 ·split <;> rfl
 ·rfl
theorem db8 (hu:unpackText s 0=some (tx,a)) (hl:levelOk (parseLv tx)=true) (hi:unpackInts s a=some ([h0,h1,h2,h3],b)) (hh:headOk h0 h2 h3) (hc:colsGo s h3.toNat h0.toNat (a+b) (List.replicate h3.toNat [])=some (rows,e)) (hk:keysGo s (h3/h2).toNat e []=some (keys,e')):drBody s=some (⟨parseLv tx,h0,h1,h2,rows,keys⟩,e'):=by
 rw[drBody,hu]; simp only[]; rw[hi]; simp only[]; rw[hc]; simp only[]; rw[hk]; simp only[]; rw[if_pos hl,if_pos hh]
end
theorem list4 {l:List Int} (h:l.length=4):∃ a b c d,l = [a,b,c,d]:=by
 match l,h with
 | [a,b,c,d],_=>exact⟨a,b,c,d,rfl⟩
theorem DR_.gd {s:ByteArray} {r:TReplay} {e:Nat} (h:DR_ s r e) (hs:s.size≤16777216):Enc.gd r :=
 ⟨h.lg hs,⟨by have:=h.pl; omega,by have:=h.pl; omega⟩,h.sd,⟨by have:=h.ev; omega,by have:=h.ev; omega⟩,
  ⟨by have:=h.rl; omega,fun x hx=>⟨by have:=(h.rw_ x hx).1; have:=h.pl; omega,fun y hy=>by have:=(h.rw_ x hx).2 y hy; exact⟨by omega,by omega⟩⟩⟩,
  ⟨by have:=h.kl; omega,fun x hx=>by have:=h.ks x hx; show x.size≤_; omega⟩⟩
theorem cols_nn {s:ByteArray} {c n pos:Nat} {R:List (List Int)} {e:Nat} (hp:pos≤s.size) (hc:colsGo s n c pos (List.replicate n [])=some (R,e)):pos≤e∧e≤s.size:=by
 by_cases hz:n=0
 ·subst hz
  obtain⟨_,g2,g3,_⟩:=colsGo_canon0 s c pos 0 R e hp hc
  exact⟨g2,g3⟩
 ·obtain⟨_,g2,g3,_⟩:=colsGo_canon s n (by omega) c pos (List.replicate n []) 0 R e hp (by simp) (fun x hx=>by rw[Gx5 hx]; rfl) (fun i hi=>absurd hi (Nat.not_lt_zero _)) hc
  exact⟨g2,g3⟩
theorem I_DecodeReplay (t:ByteArray) (hs:t.size≤16777216):ConP MaxW Tryz.prog 21 [astr t] (ownO (Enc.e (drV (drI t)))) (.tu [.ag (ownV 0 (Enc.e (drV (drI t)))),.c (.rd [] (.v (.bool (drB (drI t)))))]):=by
 have hot:=I_OpenText t (by omega)
 cases ho:openText t with
 |none =>
  rw[ho] at hot
  rw[(dr_open ho).1]
  refine ConP.of Tryz.func21 J Tryz.ntmps21 J (fun E hE hT => ?_)
  refine Wz [1,90,32] ?_;refine V6 (Kh J J (hot) J J J) J ?_;refine Wz [118,130,93] ?_
  exact G4 J J (Ye [1,1,1] [1,2,3] J J (by decide) J J J)
 |some s =>
 rw[ho] at hot
 obtain⟨_,hsz⟩:=openText_some ho
 have hut:=Xw s 0 (by omega) ⟨by omega,by omega⟩
 cases hu:unpackText s 0 with
 |none =>
  rw[hu] at hut
  rw[(dr_body ho (db1 hu)).1]
  refine ConP.of Tryz.func21 J Tryz.ntmps21 J (fun E hE hT => ?_)
  refine Wz [1,90,32] ?_;refine V6 (Kh J J (hot) J J J) J ?_;refine Wz [118,130,76] ?_;refine V6 (Kh J J (hut) J J J) J ?_;refine Wz [78,93] ?_
  exact G4 J J (Ye [1,1,1] [1,2,3] J J (by decide) J J J)
 |some p =>
 obtain⟨tx,a⟩:=p
 rw[hu] at hut
 have hus:=Vm hu
 have hpl:=I_ParseLevel tx (by omega)
 unfold pvL at hpl
 cases hlv:levelOk (parseLv tx) with
 |false =>
  rw[hlv,if_neg (by decide)] at hpl
  rw[(dr_body ho (db2 hu hlv)).1]
  refine ConP.of Tryz.func21 J Tryz.ntmps21 J (fun E hE hT => ?_)
  refine Wz [1,90,32] ?_;refine V6 (Kh J J (hot) J J J) J ?_;refine Wz [118,130,76] ?_;refine V6 (Kh J J (hut) J J J) J ?_;refine Wz [78,76] ?_;refine X5 Zw hE hT (hpl) J J J J J J J ?_;refine Wz [117,93] ?_
  exact G4 J J (Ye [1,1,1] [3,4,5] J J (by decide) J J J)
 |true =>
 rw[hlv,if_pos rfl] at hpl
 have hui:=I_UnpackInts s a (by omega) ⟨by omega,by omega⟩
 cases hi:unpackInts s a with
 |none =>
  rw[hi] at hui
  rw[(dr_body ho (db3 hu hi)).1]
  refine ConP.of Tryz.func21 J Tryz.ntmps21 J (fun E hE hT => ?_)
  refine Wz [1,90,32] ?_;refine V6 (Kh J J (hot) J J J) J ?_;refine Wz [118,130,76] ?_;refine V6 (Kh J J (hut) J J J) J ?_;refine Wz [78,76] ?_;refine X5 Zw hE hT (hpl) J J J J J J J ?_;refine Wz [117,86] ?_;refine V6 (Kh J J (hui) J J J) J ?_;refine Wz [78,91,56,20,56,20,56,20,56,93] ?_
  exact G4 J J (Ye [1,1,1] [4,5,6] J J (by decide) J J J)
 |some p =>
 obtain⟨l,b⟩:=p
 rw[hi] at hui
 have his:=Vj hi
 have hll:=Y9 l
 by_cases hl4:¬l.length=4
 ·have hb:decide (((els l).length:Int)≠4)=true:=Gqb (by omega)
  rw[(dr_body ho (db4 hu hi hl4)).1]
  refine ConP.of Tryz.func21 J Tryz.ntmps21 J (fun E hE hT => ?_)
  refine Wz [1,90,32] ?_;refine V6 (Kh J J (hot) J J J) J ?_;refine Wz [118,130,76] ?_;refine V6 (Kh J J (hut) J J J) J ?_;refine Wz [78,76] ?_;refine X5 Zw hE hT (hpl) J J J J J J J ?_;refine Wz [117,86] ?_;refine V6 (Kh J J (hui) J J J) J ?_;refine Wz [78,8,58,116,20,56,20,56,20,56,93] ?_
  exact G4 J J (Ye [1,1,1] [4,5,6] J J (by decide) J J J)
 obtain⟨h0,h1,h2,h3,rfl⟩:=list4 (Classical.not_not.1 hl4)
 have hb:decide (((els [h0,h1,h2,h3]).length:Int)≠4)=false:=Gqa (by rw[hll]; simp)
 have hl4:(els [h0,h1,h2,h3]).length=4:=rfl
 have ha0:(els [h0,h1,h2,h3])[(0:Int).toNat]? = some [.v (.int .i64 h0)]:=rfl
 have ha1:(els [h0,h1,h2,h3])[(1:Int).toNat]? = some [.v (.int .i64 h1)]:=rfl
 have ha2:(els [h0,h1,h2,h3])[(2:Int).toNat]? = some [.v (.int .i64 h2)]:=rfl
 have ha3:(els [h0,h1,h2,h3])[(3:Int).toNat]? = some [.v (.int .i64 h3)]:=rfl
 have c0:=Xx h0 1 4
 have c2:=Xx h2 1 100
 have c3:=Xx h3 0 400
 by_cases hf0:inR h0 1 4=true
 case neg =>
  rw[(dr_body ho (db5 hu hi (fun h=>hf0 (Zn.2 h.1)))).1]
  have hf0:inR h0 1 4=false:=by simpa using hf0
  rw[hf0] at c0
  refine ConP.of Tryz.func21 J Tryz.ntmps21 J (fun E hE hT => ?_)
  refine Wz [1,90,32] ?_;refine V6 (Kh J J (hot) J J J) J ?_;refine Wz [118,130,76] ?_;refine V6 (Kh J J (hut) J J J) J ?_;refine Wz [78,76] ?_;refine X5 Zw hE hT (hpl) J J J J J J J ?_;refine Wz [117,86] ?_;refine V6 (Kh J J (hui) J J J) J ?_;refine Wz [78,8,58,116,8,41,3,70,3] ?_;refine zx (Qj J J (c0) J) J ?_;refine Wz [83,20,56,20,56,93] ?_
  exact G4 J J (Ye [1,1,1] [4,5,6] J J (by decide) J J J)
 rw[hf0] at c0
 by_cases hf2:inR h2 1 100=true
 case neg =>
  rw[(dr_body ho (db5 hu hi (fun h=>hf2 (Zn.2 h.2.1)))).1]
  have hf2:inR h2 1 100=false:=by simpa using hf2
  rw[hf2] at c2
  refine ConP.of Tryz.func21 J Tryz.ntmps21 J (fun E hE hT => ?_)
  refine Wz [1,90,32] ?_;refine V6 (Kh J J (hot) J J J) J ?_;refine Wz [118,130,76] ?_;refine V6 (Kh J J (hut) J J J) J ?_;refine Wz [78,76] ?_;refine X5 Zw hE hT (hpl) J J J J J J J ?_;refine Wz [117,86] ?_;refine V6 (Kh J J (hui) J J J) J ?_;refine Wz [78,8,58,116,8,41,3,70,3] ?_;refine zx (Qj J J (c0) J) J ?_;refine Wz [83,8,41,3,70,3] ?_;refine zx (Qj J J (c2) J) J ?_;refine Wz [83,20,56,93] ?_
  exact G4 J J (Ye [1,1,1] [4,5,6] J J (by decide) J J J)
 rw[hf2] at c2
 by_cases hf3:inR h3 0 400=true
 case neg =>
  rw[(dr_body ho (db5 hu hi (fun h=>hf3 (Zn.2 h.2.2)))).1]
  have hf3:inR h3 0 400=false:=by simpa using hf3
  rw[hf3] at c3
  refine ConP.of Tryz.func21 J Tryz.ntmps21 J (fun E hE hT => ?_)
  refine Wz [1,90,32] ?_;refine V6 (Kh J J (hot) J J J) J ?_;refine Wz [118,130,76] ?_;refine V6 (Kh J J (hut) J J J) J ?_;refine Wz [78,76] ?_;refine X5 Zw hE hT (hpl) J J J J J J J ?_;refine Wz [117,86] ?_;refine V6 (Kh J J (hui) J J J) J ?_;refine Wz [78,8,58,116,8,41,3,70,3] ?_;refine zx (Qj J J (c0) J) J ?_;refine Wz [83,8,41,3,70,3] ?_;refine zx (Qj J J (c2) J) J ?_;refine Wz [83,8,41,3,70,3] ?_;refine zx (Qj J J (c3) J) J ?_;refine Wz [83,93] ?_
  exact G4 J J (Ye [1,1,1] [4,5,6] J J (by decide) J J J)
 rw[hf3] at c3
 have hr0:=Zn.1 hf0
 have hr2:=Zn.1 hf2
 have hr3:=Zn.1 hf3
 have hho:headOk h0 h2 h3:=⟨hr0,hr2,hr3⟩
 obtain⟨n0,rfl⟩:∃ n:Nat,h0=n:=⟨h0.toNat,by omega⟩
 obtain⟨n2,rfl⟩:∃ n:Nat,h2=n:=⟨h2.toNat,by omega⟩
 obtain⟨n3,rfl⟩:∃ n:Nat,h3=n:=⟨h3.toNat,by omega⟩
 have huc:=I_unpackColumns s (a+b) n0 n3 (by omega) (by omega) (by omega) (by omega)
 rw[Int.natCast_add] at huc
 refine ConP.of Tryz.func21 J Tryz.ntmps21 J (fun E hE hT => ?_)
 refine Wz [1,90,32] ?_;refine V6 (Kh J J (hot) J J J) J ?_;refine Wz [118,130,76] ?_;refine V6 (Kh J J (hut) J J J) J ?_;refine Wz [78,76] ?_;refine X5 Zw hE hT (hpl) J J J J J J J ?_;refine Wz [117,86] ?_;refine V6 (Kh J J (hui) J J J) J ?_;refine Wz [78,8,58,116,8,41,3,70,3] ?_;refine zx (Qj J J (c0) J) J ?_;refine Wz [83,8,41,3,70,3] ?_;refine zx (Qj J J (c2) J) J ?_;refine Wz [83,8,41,3,70,3] ?_;refine zx (Qj J J (c3) J) J ?_;refine Wz [83,86,136,12] ?_
 cases hc:colsGo s n3 n0 (a+b) (List.replicate n3 []) with
 |none =>
  rw[hc] at huc
  rw[(dr_body ho (db6 hu hi hc)).1]
  refine Xh u8_61 u8_62 u8_63 J ?_;refine Wz [29,4,79,109,4,79,109] ?_;refine Vx (Kh J J (huc) J J J) J ?_;refine Wz [185,122,122,122,150,150,150,17,2,25,16,93] ?_
  exact G4 J J (Ye [1,1,1] [5,6,7] J J (by decide) J J J)
 |some p =>
 obtain⟨rows,e⟩:=p
 rw[hc] at huc
 have hcn:=cols_nn (by omega) hc
 have hn2:(n3/n2:Nat)≤n3:=Nat.div_le_self _ _
 have hdiv:((n3:Int)/(n2:Int))=((n3/n2:Nat):Int):=rfl
 refine Xh u8_61 u8_62 u8_63 J ?_;refine Wz [29,4,79,109,4,79,109] ?_;refine Vx (Kh J J (huc) J J J) J ?_;refine Wz [185,122,122,122,150,150,150,17,2,25,16,86,136,12] ?_;refine Xh [[],[],[1],[1,2],[],[4],[4,5],[],[7],[7,8],[],(u9 11),[],(u9 13)] [[],[],[101],[101,102],[],[104],[104,105],[],[107],[107,108],[],[100,101,102,103,104,105,106,107,108,109,110],[],[12,100,101,102,103,104,105,106,107,108,109,110,111]] [[12,101,102,103,104,105,106,107,108,109,110],[12,100,104,105,106,107,108,109,110],[12,100,104,105,106,107,108,109,110],[12,100,104,105,106,107,108,109,110],[12,100,101,102,103,107,108,109,110],[12,100,101,102,103,107,108,109,110],[12,100,101,102,103,107,108,109,110],[12,100,101,102,103,104,105,106,110],[12,100,101,102,103,104,105,106,110],[12,100,101,102,103,104,105,106,110],[12,100,101,102,103,104,105,106,107,108,109],[12],[100,101,102,103,104,105,106,107,108,109,110,111],[]] J ?_;refine Wz [99,4,79,109,4,79,109,4,79,109,4,260,184,17,138,12,63] ?_
 refine AWP.pre ?_ (Wk.nilbox (p:=5) (i:=5) 1 J J)
 refine Xi (fun m__ st=>∃ (k:Nat) (pos:Nat) (ks:List ByteArray),n3/n2-k=m__∧((k≤n3/n2∧e≤pos∧pos≤s.size∧ks.length=k∧keysGo s (n3/n2-k) pos ks=keysGo s (n3/n2) e []))∧st=(⟨_,[(2,.o (.c (.ptr 0 0))),(4,S s),(7,I pos),(9,.o (.c (.ref 3))),(12,.o (.c (.ptr 5 0))),(13,I k)],[.box [nilR,jn 0,jn 0,jn 0,nilR,nilR],.row 1 (els (parseLv tx).Rows),.box [.ref 1],.row 1 (els [(n0:Int),h1,n2,n3]),.row 1 (els rows),.box [.ref 1,jn n0,jn h1,jn n2,.ref 4,.ref 6],.row 1 (els ks)]⟩:St)) _ ⟨(fun (k:Nat) (pos:Nat) (ks:List ByteArray)=>(⟨_,[(2,.o (.c (.ptr 0 0))),(4,S s),(7,I pos),(9,.o (.c (.ref 3))),(12,.o (.c (.ptr 5 0))),(13,I k)],[.box [nilR,jn 0,jn 0,jn 0,nilR,nilR],.row 1 (els (parseLv tx).Rows),.box [.ref 1],.row 1 (els [(n0:Int),h1,n2,n3]),.row 1 (els rows),.box [.ref 1,jn n0,jn h1,jn n2,.ref 4,.ref 6],.row 1 (els ks)]⟩:St)) (0) (e) ([]),⟨0,e,[],J,⟨Gq2 _,Gqf _,hcn.2,J,J⟩,J⟩,Gp [0,1,2,3,4,5,6] J (.c J (.c J (.cons (Xz (by omega)) (.c J (.c J (.c J (.nil)))))))⟩ ?_
 rintro m_B _ ⟨k,pos,ks,hk_B,hp_B,rfl⟩
 obtain⟨p1,p2,p3,p4,p5⟩:=hp_B
 have hel:=Y9 ks
 refine Wz [12,12] ?_
 by_cases hk:k<n3/n2
 ·have f0:decide ((k:Int)<(n3:Int)/(n2:Int))=true:=Gqb (by rw[hdiv]; omega)
  refine Xh u8_64 u8_65 u8_66 J ?_;refine Wz [29,79,109,4,79,109,224,222,17] ?_
  have hut2:=Xw s pos (by omega) ⟨by omega,by omega⟩
  cases hu2:unpackText s pos with
  |none =>
   rw[hu2] at hut2
   have hkn:keysGo s (n3/n2) e []=none:=by rw[←p5,show n3/n2-k=(n3/n2-(k+1))+1 by omega,keysGo,hu2]
   rw[(dr_body ho (db7 hu hi hc hkn)).1]
   refine Wz [15,123] ?_;refine V6 (Kh J J (hut2) J J J) J ?_;refine Wz [78,28,151,170,85,53] ?_
   exact G4 J J (Ye [1,1,1] [7,8,9] J J (by decide) J J J)
  |some p =>
   obtain⟨tx2,m⟩:=p
   rw[hu2] at hut2
   have hus2:=Vm hu2
   have hkn:keysGo s (n3/n2-(k+1)) (pos+m) (ks ++ [tx2])=keysGo s (n3/n2) e []:=by rw[←p5,show n3/n2-k=(n3/n2-(k+1))+1 by omega,keysGo,hu2]
   refine Wz [15,123] ?_;refine V6 (Kh J J (hut2) J J J) J ?_;refine Wz [78,86,136,128,30,0,45,148,103,74,43] ?_
   refine⟨_,(by omega),(fun (k:Nat) (pos:Nat) (ks:List ByteArray)=>(⟨_,[(2,.o (.c (.ptr 0 0))),(4,S s),(7,I pos),(9,.o (.c (.ref 3))),(12,.o (.c (.ptr 5 0))),(13,I k)],[.box [nilR,jn 0,jn 0,jn 0,nilR,nilR],.row 1 (els (parseLv tx).Rows),.box [.ref 1],.row 1 (els [(n0:Int),h1,n2,n3]),.row 1 (els rows),.box [.ref 1,jn n0,jn h1,jn n2,.ref 4,.ref 6],.row 1 (els ks)]⟩:St)) (k+1) (pos+m) (ks ++ [tx2]),⟨k+1,pos+m,ks ++ [tx2],J,⟨by omega,by omega,by omega,by rw[Gqe,p4]; rfl,hkn⟩,J⟩,Yg [0,1,2,3,4,5,6] (by decide) J ((by rw[els_snocC]; rfl)) (.c J (.c J (.cons (Xz (by omega)) (.c J (.c J (.cons (Xz (by omega)) (.nil)))))))⟩
 have f0:decide ((k:Int)<(n3:Int)/(n2:Int))=false:=Gqa (by rw[hdiv]; omega)
 refine Xh u8_64 u8_65 u8_66 J ?_;refine Wz [29,79,109,4,79,109,224,222,17] ?_
 have hkk:keysGo s (n3/n2) e []=some (ks,pos):=by rw[←p5,show n3/n2-k=0 by omega,keysGo]
 have hdb:=db8 hu hlv hi hho hc hkk
 have hDR:=drBody_ok hdb
 have cro:=Xv _ (hDR.gd (by omega))
 rw[drI_end ho hdb]
 by_cases he:pos=s.size
 case neg =>
  have hb3:decide ((pos:Int)≠s.size)=true:=Gqb (by omega)
  rw[if_neg (fun h=>he h.1)]
  refine Wz [61,50,81,91,56,93] ?_
  exact G4 J J (Ye [1,1,1] [7,8,9] J J (by decide) J J J)
 have hb3:decide ((pos:Int)≠s.size)=false:=Gqa (by omega)
 cases hro:replayOk (⟨parseLv tx,n0,h1,n2,rows,ks⟩:TReplay) with
 |false =>
  rw[hro] at cro
  rw[if_neg (fun h=>by cases h.2)]
  refine Wz [61,50,81,18,48,3] ?_;refine zx (Qj J J (cro) J) J ?_;refine Wz [83,93] ?_
  exact G4 J J (Ye [1,1,1] [7,8,9] J J (by decide) J J J)
 |true =>
  rw[hro] at cro
  rw[if_pos ⟨he,rfl⟩]
  refine Wz [61,50,81,18,48,3] ?_;refine zx (Qj J J (cro) J) J ?_;refine Wz [83,38,6,115] ?_
  exact G4 J J (Gr [1,4,6] J J J)
end
end Go.Proofs.YtpmacgnmlmmojaaGreatDoor
