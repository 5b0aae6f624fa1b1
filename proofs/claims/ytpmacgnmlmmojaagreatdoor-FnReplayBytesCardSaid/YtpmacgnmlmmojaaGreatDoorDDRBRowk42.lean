/-
  Rules, data and contracts of functions: part 43 of the proof.
  Conditions: those that each theorem names.
-/
import Derived.HandedShaped
import Derived.Stop.LaidErr
import Derived.MakeChecks
import Derived.Test.YtpmacgnmlmmojaaGreatDoorDDRBRowk34
set_option linter.unusedVariables false
set_option linter.unusedSimpArgs false
namespace Go.Proofs.YtpmacgnmlmmojaaGreatDoor
section
open Go.RowKit

theorem law_callsP {Φ:World→Prop} {P:Program} {f:FuncId} {args:List V2} (hc:ConP Φ P f args [] (B true)) (w:World) (hw:Φ w) (vs:List Value) (hl:vs.length=args.length) (hr:∀ (i:Nat) (x:V2) (v:Value),args[i]? = some x→vs[i]? = some v→R2 w (fun _ => .nil) (fun b=>b<w.heap.size) x v) :
  Calls P f vs.toArray w fun e w'=>e = .returned (.bool true)∧Below w.heap.size w w':=by
 refine (hc w hw (fun _ => .nil) (fun b=>b<w.heap.size) vs ⟨fun _=>trivial,fun _=>by simp[Pc.fp],fun p q b h=>by simp[Pc.fp] at h,fun p b h=>by simp[Pc.fp] at h,fun _ h=>h⟩ (fun p=>by simp[RB]) hl hr).mono ?_
 rintro e w' ⟨H',F',rv,rfl,hs,_,_,hv⟩
 refine⟨by rw[(RO.plain (show RO w' _ (.v (.bool true)) rv from hv)).1],hs.os,hs.tape,hs.output,hs.size,fun b hb=>hs.keep b hb fun p=>by simp[Pc.fp]⟩
theorem ret_and_shaped {H:Type} {enc:TypeId×Value→H} {a:Assume} {C:Checked} {os:Os} {f:FuncId} {fn:Func} {s:ChangeSpec} {conds:List PathCond} {apart fresh handsOn again:Bool} {X:World→Array Value→Prop}
  (hX:∀ (w w':World) (args:Array Value),w.heap=w'.heap→X w args→X w' args)
  (own:ownKnob C.prog.godebug=none) (started:os.Started) (noInit:C.prog.inits.idxOf? f=none) (hfn:C.prog.funcs[f]? = some fn)
  (witness:∃ (w:World) (tape:Tape) (i:Input),w.os=os∧(w.forCall tape i).Shaped C.prog∧i.vars = []∧Input.okWide C.prog (w.forCall tape i) .any w.heap.size f i ∧
   ((s.pre enc C.prog fn conds apart (w.forCall tape i).memory i.args∧X (w.forCall tape i).memory i.args)∧sizedMet enc C.prog fn (OpenSpec.ofChange s) apart (w.forCall tape i).memory i.args)∧a.holds C.prog (lone (Frame.enter C.prog f i.args .normal) [] (w.forCall tape i)))
  (contract:∀ (W:World) (base:Nat) (args:Array Value) (ds gs:List (DataW H)) (before:List MemPlace),
   (∀ (j:Nat) t v,fn.params[j]? = some t→args[j]? = some v→Value.okWide C.prog W .any base t v) →
   DataW.Whole enc C.prog fn.params.toList s.vars apart W args.toList ds gs before →
   conds.all (PathCond.test C.prog ⟨fn.params.toList,ds,s.plain.varTypes C.prog,gs⟩)=true →
   (DataW.weightsEach C.prog (fn.params.toList++s.plain.varTypes C.prog) (ds++gs)).all (· ≤ reachBytes)=true→X W args→W.ShapedOpen C.prog →
   a.holds C.prog (lone (Frame.enter C.prog f args .normal) [] W) →
   Calls C.prog f args W fun e W'=>∃ v,e = .returned v∧s.post enc C.prog fn apart fresh handsOn again W args v W') :
  ReturnsInHanded a C os f .any (fun w args=>(s.pre enc C.prog fn conds apart w args∧X w args)∧sizedMet enc C.prog fn (OpenSpec.ofChange s) apart w args) (s.post enc C.prog fn apart fresh handsOn again):=by
 refine returnsInHanded_of_calls own started noInit witness ?_
 intro w tape i _ hsh _ hok hpre hholds
 obtain⟨_,_,_,fn',hfn',_,_,_,_,hval⟩:=hok
 have e:fn'=fn:=Option.some.inj (hfn'.symm.trans hfn)
 subst e
 obtain⟨⟨⟨ds,gs,before,hw,hc⟩,hx⟩,hz⟩:=hpre
 have hw':=DataW.Whole.of_heap (w':=w.forCall tape i) (by rfl) hw
 refine (contract (w.forCall tape i) w.heap.size i.args ds gs before hval hw' hc (hz.weights hw) (hX _ _ _ (by rfl) hx) hsh hholds).mono fun e W' ⟨v,he,hp⟩ => ?_
 subst he
 exact ChangeSpec.post_blind hp
end
section
open Go.ChangeShapes Go.WideShapes Go.ChangeAt Go.RowKit

def RL (w:World) (ts:List T) (cs:List Value):Prop:=∀ (j:Nat) (t:T) (u:Value),ts[j]? = some t→cs[j]? = some u→RO w (fun _=>True) t u
theorem RL.nil {w:World} {cs:List Value}:RL w [] cs:=fun _ _ _ h=>by simp at h
theorem RL.app {w:World} {ts us:List T} {cs:List Value} {o n:Nat} (h1:RL w ts ((cs.drop o).take n)) (hn:ts.length=n) (h2:RL w us (cs.drop (o+n))):RL w (ts++us) (cs.drop o):=fun j t u h3 h4=>by
 rcases Gqp j ts.length with hj | hj
 ·rw[Gqz hj] at h3
  exact h1 j t u h3 (by rw[Gxi,if_pos (by omega)]; exact h4)
 ·rw[Gq4 hj] at h3
  refine h2 (j-ts.length) t u h3 ?_
  rw[Gq5] at h4 ⊢
  rw[←h4]
  congr 1
  omega
theorem reads_fld {P:Program} {t tt:TypeId} {fs:Array Field} {f:Field} {α:Type} [Enc α] {H:Type} {enc:TypeId×Value→H} {w:World} {spare:Nat→Bool} {held:Bool} {fuel:Nat} {cs:List Value} {x:DataW H×List MemPlace}
  (ht:P.underlying t=some (.struct fs)) (h:DataW.trod enc P w 0 spare held fuel t cs=some x) (i:Nat) (hf:fs[i]? = some f) (hty:f.type=tt) [hα:RdOf P tt α] {o:Nat} (ho:f.offset=o) :
  ∃ y:α,Enc.gd y∧RL w (Enc.e y) ((cs.drop o).take (Enc.k α)):=by
 obtain⟨xs,n,_,_,hl,hlen,hfs⟩:=DataW.trod_struct ht h
 have h1:=hfs i f hf
 have hi:i<fs.size:=by
  rcases Gqp i fs.size with h2 | h2
  ·exact h2
  ·rw[Gzd h2] at hf; cases hf
 rw[Gqd (by omega),hty,ho,hα.size] at h1
 obtain⟨y,hg,hr⟩:=hα.of h1
 exact⟨y,hg,hr.2⟩
theorem reads_len {P:Program} {t:TypeId} {fs:Array Field} {H:Type} {enc:TypeId×Value→H} {w:World} {spare:Nat→Bool} {held:Bool} {fuel:Nat} {cs:List Value} {x:DataW H×List MemPlace}
  (ht:P.underlying t=some (.struct fs)) (h:DataW.trod enc P w 0 spare held fuel t cs=some x):cs.length=P.cellsOf t:=by
 obtain⟨xs,n,_,_,hl,_⟩:=DataW.trod_struct ht h
 exact hl

instance:RdOf Tryz.prog 3 Int:=rdOf_int Tryz.underlying3 (by kernel_rfl)
instance:RdOf Tryz.prog 9 ByteArray:=rdOf_string Tryz.underlying9 (by kernel_rfl)
instance:RdOf Tryz.prog 27 (List Int):=rdOf_slice Tryz.underlying27 (by kernel_rfl)
instance:RdOf Tryz.prog 24 (List ByteArray):=rdOf_slice Tryz.underlying24 (by kernel_rfl)
instance:RdOf Tryz.prog 31 (List (List Int)):=rdOf_slice Tryz.underlying31 (by kernel_rfl)
instance:RdOf Tryz.prog 71 TLevel where
 size:=by kernel_rfl
 of {H enc w spare held fuel cs x} h:=by
  obtain⟨y0,g0,r0⟩:=reads_fld (α:=(List ByteArray)) (tt:=24) Tryz.underlying71 h 0 rfl rfl rfl
  refine⟨⟨y0⟩,g0,?_,?_⟩
  ·rw[reads_len Tryz.underlying71 h]; kernel_rfl
  ·exact (RL.app (o:=0) (n:=1) r0 rfl (RL.nil):RL w _ (cs.drop 0))
end
section
open Go.ChangeShapes Go.WideShapes Go.ChangeAt Go.RowKit

theorem rdOf_u8 {P:Program} {t:TypeId} (ht:P.underlying t=some (.int .u8)) (hs:P.cellsOf t=1):RdOf P t UInt8 where
 size:=hs
 of h:=by
  obtain⟨n,rfl,_,h3⟩:=DataW.trod_int ht h
  have hn:0≤n∧n≤255:=by
   simp[Lit.wf,IntKind.min,IntKind.max,IntKind.signed,IntKind.bits] at h3
   omega
  have h1:((UInt8.ofNat n.toNat).toNat:Int)=n:=by
   rw[UInt8.toNat_ofNat']
   omega
  refine⟨UInt8.ofNat n.toNat,trivial,reads_one (t := .v (.int .u8 n)) ?_ (.v _ J)⟩
  show [T.v (.int .u8 ((UInt8.ofNat n.toNat).toNat:Int))]=_
  rw[h1]
instance:RdOf Tryz.prog 5 UInt8:=rdOf_u8 Tryz.underlying5 (by kernel_rfl)
instance:RdOf Tryz.prog 22 (List UInt8):=rdOf_slice Tryz.underlying22 (by kernel_rfl)
end
end Go.Proofs.YtpmacgnmlmmojaaGreatDoor
