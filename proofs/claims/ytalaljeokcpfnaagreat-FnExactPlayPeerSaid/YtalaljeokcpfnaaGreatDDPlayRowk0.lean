/-
  Plain data as trees of cells, and how they lie in memory: read-only, or owned block by block. No statement of the program is proved here.
  Conditions: none.
-/
import Derived.WalkKit
import Derived.WalkSpells
import Derived.Deep.OwnRows
import Derived.Deep.MidRow
set_option linter.unusedSimpArgs false
set_option linter.unusedVariables false
namespace Go.Proofs.YtalaljeokcpfnaaGreat
section
open Go.RowKit
theorem Bqw {p:Prop} (h:p:=by rw[hcs]; rfl):p:=h
theorem Bqx {p:Prop} (h:p:=by have:=Gqc h; omega):p:=h
theorem Bqy {p:Prop} (h:p:=by rw[e]; simp):p:=h
theorem Bqz {p:Prop} (h:p:=by simp; omega):p:=h
theorem Bq0 {p:Prop} (h:p:=by rw[Ub Aqa]):p:=h
theorem Bq1 {p:Prop} (h:p:=by rw[←hds]; rfl):p:=h
theorem Bq2 {p:Prop} (h:p:=by rw[hk]):p:=h
theorem Bq3 {p:Prop} (h:p:=by simp[tileM]):p:=h
theorem Bq4 {p:Prop} (h:p:=by rw[Y7]; simp; omega):p:=h
theorem Bq5 {p:Prop} (h:p:=by have:=Gqd h; omega):p:=h
theorem Bq6 {p:Prop} (h:p:=by unfold Region.wanted; rw[hg]):p:=h
theorem Bq7 {p:Prop} (h:p:=by simpa using hsz):p:=h
theorem Bq8 {p:Prop} (h:p:=by rw[hd]; exact hl):p:=h
theorem Bq9 {p:Prop} (h:p:=by rw[hd]; exact h):p:=h
theorem Bxa {p:Prop} (h:p:=by simp only[Gql]; omega):p:=h
theorem Bxb {p:Prop} (h:p:=by rw[Uc Aqa]; omega):p:=h
theorem Bxc {p:Prop} (h:p:=by rw[Gqu]; omega):p:=h
theorem Bxd {p:Prop} (h:p:=by simpa using hq):p:=h
theorem Bxe {p:Prop} (h:p:=by rw[e1]; rfl):p:=h
theorem Bxf {p:Prop} (h:p:=by rw[hcs,←hds]; rfl):p:=h
theorem Bxg {p:Prop} (h:p:=by rw[←hdl]; exact Gqi _):p:=h
theorem Bxh {p:Prop} (h:p:=by rw[hend]; rfl):p:=h
theorem Bxi {p:Prop} (h:p:=by simpa using hi):p:=h
theorem Bxj {p:Prop} (h:p:=by rw[hFi]; exact h):p:=h
theorem Bxk {p:Prop} (h:p:=by rw[Y3]; exact Yj [0,1,2,3,4,5] Aqb):p:=h
theorem Bxl {p:Prop} (h:p:=by rw[Gxl]; omega):p:=h
theorem Bxm {p:Prop} (h:p:=by simpa using hj):p:=h
theorem Bxn {p:Prop} (h:p:=by simpa using h4):p:=h
theorem Bxo {p:Prop} (h:p:=by simp only; omega):p:=h
theorem Bxp {p:Prop} (h:p:=by rw[Gq4]; omega):p:=h
theorem Bxq {p:Prop} (h:p:=by rw[←hp1,hst]; simp only[Gqz]):p:=h
theorem Bxr {p:Prop} (h:p:=by rw[Kb xs _ Aqa]; omega):p:=h
theorem Bxs {p:Prop} (h:p:=by simpa using hl):p:=h
theorem Bxt {p:Prop} (h:p:=by exact rwBo (st_el J)):p:=h
theorem Bxu {p:Prop} (h:p:=by rw[e]; exact hb):p:=h
theorem Bxv {p:Prop} (h:p:=by have:=Gqc h5; omega):p:=h
theorem Bxw {p:Prop} (h:p:=by have:=Gqd h5; omega):p:=h
theorem Bxx {p:Prop} (h:p:=by rw[←Zm]; simpa using h):p:=h
theorem Bxy {p:Prop} (h:p:=by simp only[Yx,cat_size,Gqw,List.length_nil,Gql]; omega):p:=h
theorem Bxz {p:Prop} (h:p:=by rw[hlx,hly]; simp; omega):p:=h
theorem Bx0 {p:Prop} (h:p:=by rw[←hT2]; exact Yj [0,1,2] Aqb):p:=h
theorem Bx1 {p:Prop} (h:p:=by rw[if_pos h2,if_pos h2]; exact Yj [0,1,2] Aqb):p:=h
theorem Bx2 {p:Prop} (h:p:=by rw[if_neg h2,if_neg h2]; exact Yj [0,1,2] Aqb):p:=h
theorem Bx3 {p:Prop} (h:p:=by rw[hSt _ Aqa,←Gq7]; exact hb):p:=h
theorem Bx4 {p:Prop} (h:p:=by rw[hsn]; exact Yj [0,1,2,3,4,5,6,7,8,9,10] Aqb):p:=h
theorem Bx5 {p:Prop} (h:p:=by have:=(Gqo.1 hi).1; omega):p:=h
theorem Bx6 {p:Prop} (h:p:=by rw[Yw,Ys,Ys,ee]; exact Yj [0] Aqb):p:=h
theorem Bx7 {p:Prop} (h:p:=by rw[ee,←Yv,←Yv,bs_of (packText (s.extract q e))]):p:=h
theorem Bx8 {p:Prop} (h:p:=by rw[show (((els x.Saves).length:Int)-1).toNat=n by omega]; exact els_atQ hsv2):p:=h
theorem Bx9 {p:Prop} (h:p:=by rw[Y9]; exact Yj [0,1,2,3,4,5,6,7,8,9,10] Aqb):p:=h
theorem Bza {p:Prop} (h:p:=by simp[V1.off,e]; simpa[V1.offe] using hx):p:=h
theorem Bzb {p:Prop} (h:p:=by rw[hsn]; exact Yj [0,1,2,3,4,5,6,7] Aqb):p:=h
theorem Bzc {p:Prop} (h:p:=by rw[hsn]; exact Yj [0,1,2,3,4,5,6,7,8,9,10,11] Aqb):p:=h
theorem Bzd {p:Prop} (h:p:=by rw[hsn]; exact Yj [0,1,2,3,4,5,6,7,8,9,10,11,12,13,14,15,16] Aqb):p:=h
theorem Bze {p:Prop} (h:p:=by have h:=V7 (hit:=fun z=>solidM l z b.Y s) (step:=d) (N-0) b.X hp; rw[hR1] at h; exact h):p:=h
theorem Bzf {p:Prop} (h:p:=by rw[show conS y w={ y with Base:=w,Sums:=y.Sums ++ [wsum w],Used:=y.Used.drop 1,Saves := [] } by rw[conS,←hsvd]; rfl]; rfl):p:=h
theorem Bzg {p:Prop} (h:p:=by rw[show conS y w={ y with Base:=w,Sums:=y.Sums ++ [wsum w],Used:=y.Used.drop 1,Saves:=⟨s.Tick,D⟩::rest } by rw[conS,←hsvd,fixD,←hD]]; rfl):p:=h
theorem Bzh {p:Prop} (h:p:=by exact E_w [] J J):p:=h
theorem Bzi {p:Prop} (h:p:=by exact E_w [] J (X0 (by rw[Ub Aqa]))):p:=h
theorem Bzj {p:Prop} (h:p:=by exact Xq J J J (Yh [] Aqc J J J)):p:=h
theorem Bzk {p:Prop} (h:p:=by exact Xn J J J J J (Yh [] Aqc J J J)):p:=h
theorem Bzl {p:Prop} (h:p:=by exact E_w [] J (Xk (Gqb J).symm)):p:=h
theorem Bzm {p:Prop} (h:p:=by exact .t (i+1) (Yk [] Aqc J Aqb (.c J (.cons (X0 hnx.symm) (.c J (.nil)))))):p:=h
theorem Bzn {p:Prop} (h:p:=by exact Xr J J J J (Yh [] Aqc J J J)):p:=h
theorem Bzo {p:Prop} (h:p:=by exact Xp J J (Yh [0,1] Aqc J (row2 he.symm) (X0 (by rw[hk])))):p:=h
theorem Bzp {p:Prop} (h:p:=by exact Xn J J J J J (Yi [1,1,9] [3,4,5] J J Aqc J J J)):p:=h
theorem Bzq {p:Prop} (h:p:=by exact E_w [] J (X0 (by rw[hk]))):p:=h
theorem Bzr {p:Prop} (h:p:=by exact Xm J J J J (Yh [3,4,5] Aqc J J J)):p:=h
theorem Bzs {p:Prop} (h:p:=by exact⟨_,_,Hs.put_self _ _ _⟩):p:=h
theorem Bzt {p:Prop} (h:p:=by exact E_w [] J (Xk (hbad (hcn.trans (by simp[tileM]))).symm)):p:=h
theorem Bzu {p:Prop} (h:p:=by exact Xm J J J J (Yh [2,3,4] Aqc J J J)):p:=h
theorem Bzv {p:Prop} (h:p:=by exact Xn J J J J J (Yi [1,1,9] [6,7,8] J J Aqc J J J)):p:=h
theorem Bzw {p:Prop} (h:p:=by exact Xn (cs:=(pC x 2 3 4 5 6 7 8 9 10 11)) J J J J J (Yh [2,3,4,5,6,7,8,9,10,11] Aqc J Aqb Aqb)):p:=h
theorem Bzx {p:Prop} (h:p:=by exact Xm J J J J (Yh [] Aqc J J J)):p:=h
theorem Bzy {p:Prop} (h:p:=by exact Xm J J J J (Yh [2] Aqc J J J)):p:=h
theorem Bzz {p:Prop} (h:p:=by exact Xm J J J J (Yh [2,3,4,5,6,7,8,9,10] Aqc J J J)):p:=h
theorem Bz0 {p:Prop} (h:p:=by exact hK _ _ (h.h _ _ ⟨_,F,hR2,h2.turn htn⟩)):p:=h
theorem Bz1 {p:Prop} (h:p:=by exact Xo J (Yh [0,1,2,3,4] Aqc J J J)):p:=h
theorem Bz2 {p:Prop} (h:p:=by exact Xm J J J J (Yh [1,2,3] Aqc J J J)):p:=h
theorem Bz3 {p:Prop} (h:p:=by exact Xn J J J J J (Yi [1,1,9] [2,3,4] J J Aqc J J J)):p:=h
theorem Bz4 {p:Prop} (h:p:=by exact .inr (Yk [0,1,2,3,4,5,6,7,8,9,10,11,12,13,14,15,16,17,18,19,20,21] Aqc J Aqb (.c J (.c J (.c J (.nil)))))):p:=h
theorem Bz5 {p:Prop} (h:p:=by exact E_w [] J (Xk (eq_ne h3 h4 he).symm)):p:=h
theorem Bz6 {p:Prop} (h:p:=by exact E_w [] J (Xk (eq_all Aqa hl hp_A).symm)):p:=h
theorem Bz7 {p:Prop} (h:p:=by exact Xp J J (Yh [0] Aqc J (Vy (Z9 xs _ Aqa).symm) J)):p:=h
theorem Bz8 {p:Prop} (h:p:=by exact Xn J J J J J (Yh [2,3,4] Aqc J J J)):p:=h
theorem Bz9 {p:Prop} (h:p:=by exact Yk [0,1,2,3,4,5,6,7,8,9,10,11,12] Aqc J Aqb (.c J (.c J (.c J (.c J (.cons (Xk hcc) (.nil))))))):p:=h
theorem Bja {p:Prop} (h:p:=by exact Xm (cs:=(pC y 2 3 4 5 6 7 8 9 10 11)) J J J J (Yh [2,3,4,5,6,7,8,9,10,11] Aqc J Aqb Aqb)):p:=h
theorem Bjb {p:Prop} (h:p:=by exact Yk [0,1,2,3,4,5,6,7,8,9,10,11,12] Aqc J Aqb (.c J (.c J (.c J (.cons (Xk hcc) (.nil)))))):p:=h
theorem Bjc {p:Prop} (h:p:=by exact Xo J (Yh [0,1,2,3,4,5,6,7,8,9,10] Aqc J J J)):p:=h
theorem Bjd {p:Prop} (h:p:=by exact .n (k+1) (Yo hp_A h3 (by simpa using h4)) (Yj [] Aqb)):p:=h
theorem Bje {p:Prop} (h:p:=by exact .n (c+1) hnd (Yk [0] Aqc J Aqb (.c J (.c J (.cons (X0 hnx) (.cons (X0 hny) (.c J (.c J (.c J (.c J (.c J (.c J (.nil))))))))))))):p:=h
theorem Bjf {p:Prop} (h:p:=by exact .n (c+1) hnd (Yk [0] Aqc J Aqb (.c J (.c J (.cons (X0 hnx) (.cons (X0 hny) (.c J (.c J (.nil))))))))):p:=h
theorem Bjg {p:Prop} (h:p:=by exact Xn (cs:=(pX ({ x with Saves:=x.Saves ++ [⟨x.Now.Tick,D⟩],Used:=x.Used ++ [row],Now:=Nw }:TPeer) (Aqk 2) (Aqk 3) (Aqk 4) (Aqk 5) (Aqk 13) (Aqk 14) (Aqk 15) (Aqk 9) (Aqk 10) (Aqk 11))) J J J J J (Yh [2,3,4,5,13,14,15,9,10,11] Aqc J Aqb Aqb)):p:=h
theorem Bjh {p:Prop} (h:p:=by exact DAL.to J Aqb (Yk [0,1,2,3,4,5,6,7,8,9,10,11,12,13] Aqc J Aqb (.c J (.c J (.c J (.c J (.c J (.c J (.c J (.c J (.nil)))))))))) h0):p:=h
theorem Bji {p:Prop} (h:p:=by exact (RL.app (o:=0) (n:=1) r0 rfl (RL.app (o:=1) (n:=1) r1 rfl (RL.nil)):RL w _ (cs.drop 0))):p:=h
theorem Bjj {p:Prop} (h:p:=by exact .t (k+1) (Yk [0] Aqc J (Vy (Kc xs ve_ h3 _ (by rfl) (by rfl)).symm) (.c J (.c J (.c J (.nil)))))):p:=h
theorem Bjk {p:Prop} (h:p:=by exact hK undef w H F (Grow.refl w H F) hr.ok (fun i ob hi=>by simp at hi) (fun p hp _=>hp) ⟨fun h=>by simp at h,fun _ _ _=>rfl⟩):p:=h
theorem Bjl {p:Prop} (h:p:=by exact⟨w-(c+1),Aqa,_,⟨c+1,((sa,sb,sc,sd),so),Aqa,hcn.trans (by simp[tileM]),J⟩,Yj [0,1] Aqb⟩):p:=h
theorem Bjm {p:Prop} (h:p:=by exact⟨w-(c+1),Aqa,_,⟨c+1,((sa,sb,sc,sd),true),Aqa,hcn.trans (by simp[tileM]),J⟩,Yj [0,1] Aqb⟩):p:=h
theorem Bjn {p:Prop} (h:p:=by exact⟨w-(c+1),Aqa,(fun (c:Nat) (u:Seen×Bool)=>(⟨_,[(1,Aqf 0),(3,I w),(4,B u.2),(5,.o (.c (.sb 1 4 1))),(6,I k),(7,I c)],[.box [.rd [] (sl rows)],.box [vb u.1.1,vb u.1.2.1,vb u.1.2.2.1,vb u.1.2.2.2]]⟩:St)) (c+1) (((sa,sb,sc,sd),true)),⟨c+1,((sa,sb,sc,sd),true),Aqa,hcn.trans (by simp[tileM]),J⟩,Yk [0,1] Aqc J Aqb (.c J (.c J (.cons (Xk Aqd) (.c J (.c J (.c J (.nil)))))))⟩):p:=h
theorem Bjo {p:Prop} (h:p:=by exact⟨w.Scores.length-(k+1),Aqa,_,⟨k+1,bs.set k c,Aqa,hnx.symm,J⟩,Yj [0,1,2,3,4] Aqb⟩):p:=h
theorem Bjp {p:Prop} (h:p:=by exact .n (i+1) (Ug hp_A ⟨link_len hws hqs hks Aqa Aqa Aqa,fun j' hj=>hp_D j' Aqa⟩) (Yj [0] Aqb)):p:=h
theorem Bjq {p:Prop} (h:p:=by exact E_w [] J (S_eq (congrArg bs (by rw[←hp1,h5,List.drop_eq_nil_of_le Aqa,packZ_nil,Gqy])))):p:=h
theorem Bjr {p:Prop} (h:p:=by exact .t (k+1) (Yk [0] Aqc J (Vy (rowP_next h3)) (.c J (.c J (.cons (Xk hkn) (.c J (.c J (.c J (.nil))))))))):p:=h
theorem Bjs {p:Prop} (h:p:=by exact Mid.n (Yk [0,1,2,3,4,5,6,7,8,9,10,11,12] Aqc J Aqb (.c J (.c J (.c J (.c J (.cons (S_eq hbw) (.nil)))))))):p:=h
theorem Bjt {p:Prop} (h:p:=by exact Xn (cs:=(pC ({ x with Tracks:=x.Tracks.set x.Me.toNat ⟨tr.Inputs ++ [n]⟩ }:TPeer) 2 3 4 5 6 7 8 9 10 11)) J J J J J (Yh [2,3,4,5,6,7,8,9,10,11] Aqc J Aqb Aqb)):p:=h
theorem Bju {p:Prop} (h:p:=by exact DAL.to J Aqb (Yk [0,1,2,3,4,5,6,7,8,9,10,11,12,13] Aqc J Aqb (.c J (.c J (.c J (.c J (.c J (.c J (.c J (.c J (.nil)))))))))) h3):p:=h
theorem Bjv {p:Prop} (h:p:=by exact DAL.to J Aqb (Yk [0,1,2,3,4,5,6,7,8,9,10,11,12,13] Aqc J Aqb (.c J (.c J (.c J (.c J (.c J (.c J (.c J (.c J (.nil)))))))))) h1):p:=h
theorem Bjw {p:Prop} (h:p:=by exact .inr (Yk [0,1,2,3,4,5,6,7,8,9,10,11,22,23,24,25,26,27,28,29,30,31] Aqc J Aqb (.c J (.c J (.c J (.nil)))))):p:=h
theorem Bjx {p:Prop} (h:p:=by exact (RL.app (o:=0) (n:=1) r0 rfl (RL.app (o:=1) (n:=1) r1 rfl (RL.app (o:=2) (n:=1) r2 rfl (RL.app (o:=3) (n:=1) r3 rfl (RL.app (o:=4) (n:=1) r4 rfl (RL.nil))))):RL w _ (cs.drop 0))):p:=h
theorem Bqa {G:Prop} (h:G:=by
 have hlen:=Y7 xs
 have hx:=hg.1
 have hw:Enc.wt xs=xs.length:=by simp[Enc.wt,va_]
 refine Con.o vb_ vc_ fun E=>?_;refine Wz [23,10,25,29,40,58] ?_
 refine Xb J (fun h=>?_) (fun h=>?_)
 ·refine Wz [69] ?_
  have h2:=Gqc (p:=_) (by simpa using h)
  exact Bzi
 ·refine Wz [42,11,8] ?_
  refine Wz [73] ?_
  have h2:=Gqd h
  exact E_w [] J (X0 Bxb)):G:=h
theorem Bqb {G:Prop} (h:G:=by
 have hlen:=Y7 xs
 have hx:=hg.1
 have hw:Enc.wt xs=xs.length+wts xs:=rfl
 refine Con.o va_ vb_ fun E=>?_;refine Wz [23,10,25,29,40,58] ?_
 refine Xb J (fun h=>?_) (fun h=>?_)
 ·refine Wz [69] ?_
  have h2:=Gqc h
  exact Bzi
 have h2:¬(left-((els xs).length:Int)<0):=Gqd h
 refine Wz [108,51] ?_
 refine A_lp xs.length (fun k=>(xs.length:Int)+wts (xs.take k)≤left) (fun k => [(0,L xs),(1,I (left-(xs.length+wts (xs.take k)))),(5,I k)]) (fun k => []) (by simp[wts]; omega) (Yk [] Aqc J Aqb (.c J (.cons (X0 (by simp[els,wts])) (.c J (.nil))))) ?_
 intro m_A k hk_A hp_A
 refine Wz [114] ?_
 refine Xb J (fun h=>?_) (fun h=>?_)
 ·have h3:k<xs.length:=Bqx
  have hat:=Y4 h3
  have hstep:=Un xs k h3
  have hle:=Uo xs (k+1)
  have hc:=vc_ xs[k] (left-((xs.length:Int)+wts (xs.take k))) (hg.2 _ (Gqe h3)) Aqa Aqa 
  by_cases h4:left-((xs.length:Int)+wts (xs.take k))<Enc.wt xs[k]
  ·rw[Ub h4] at hc
   have hb:decide ((-1:Int)<0)=true:=rfl
   refine vd_ ?_;refine kc0 hc ?_;refine Wz [44,157,45,57] ?_
   exact Bzi
  ·rw[Uc Aqa] at hc
   have hb:decide (left-((xs.length:Int)+wts (xs.take k))-Enc.wt xs[k]<0)=false:=Gqa Aqa 
   refine vd_ ?_;refine kc0 hc ?_;refine Wz [44,19,81] ?_
   exact .n (k+1) Aqa (Yk [] Aqc J Aqb (.c J (.cons (X0 (by rw[hstep]; omega)) (.c J (.nil)))))
 ·have h3:¬((k:Int)<(els xs).length):=Gqd h
  have hk:wts (xs.take k)=wts xs:=by rw[Gqj Aqa]
  refine Wz [74] ?_
  exact E_w [] J (X0 Bxb)):G:=h
theorem Bqc {G:Prop} (h:G:=by
 have hn1:=hn.1
 have hlx:=Y7 xs
 have hly:=Y7 ys
 by_cases hl:xs.length=ys.length
 ·have hb:decide (((els xs).length:Int)≠((els ys).length:Int))=false:=by rw[hlx,hly,hl]; simp
  refine Con.o va_ vb_ fun E=>?_;refine Wz [95,25,0,25,22,135,51] ?_;refine A_lp xs.length (fun k=>xs.take k=ys.take k) (fun k => [(0,L xs),(1,L ys),(5,I k)]) (fun k => []) Aqd (Yj [] Aqb) ?_
  intro m_A k hk_A hp_A
  refine Wz [114] ?_
  refine Xb J (fun h=>?_) (fun h=>?_)
  ·have h3:k<xs.length:=Bqx
   have h4:k<ys.length:=Aqa
   have hat:=Y4 h3
   have hat2:=Y4 h4
   by_cases he:xs[k]=ys[k]
   ·have hk:decide (xs[k]≠ys[k])=false:=by simp[he]
    refine vc_ ?_
    exact .n (k+1) (eq_next h3 h4 hp_A he) (Yj [] Aqb)
   ·have hk:decide (xs[k]≠ys[k])=true:=by simp[he]
    refine vd_ ?_
    exact Bz5
  ·have h3:¬((k:Int)<(els xs).length):=Gqd h
   refine Wz [30,101] ?_
   exact Bz6
 ·have hb:decide (((els xs).length:Int)≠((els ys).length:Int))=true:=Bxz
  refine Con.o va_ vb_ fun E=>?_;refine Wz [95,25,0,25,22,115] ?_
  exact E_w [] J (Xk (eq_len hl).symm)):G:=h
theorem Bqd {G:Prop} (h:G:=by
 subst e
 have hn1:=hn.1
 have hlx:=Y7 xs
 have hb:decide (((els xs).length:Int)≠((els xs).length:Int))=false:=Aqd
 refine Con.o va_ vb_ fun E=>?_;refine Wz [95,25,0,25,22,135,51] ?_;refine A_lt xs.length (fun k => [(0,L xs),(1,L xs),(5,I k)]) (fun k => []) (Yj [] Aqb) ?_
 intro m_A k hk_A
 refine Wz [114] ?_
 refine Xb J (fun h=>?_) (fun h=>?_)
 ·have h3:k<xs.length:=Bqx
  have hat:=Y4 h3
  have hc:=vc_ xs[k] xs[k] (hn.2 _ (Gqe h3))
  rw[Gqb rfl] at hc
  refine Wz [9,4,214,35,132,159,35,132,159] ?_;refine Uq (Qj J J (hc) J) J ?_;refine Wz [142,12,81] ?_
  exact .t (k+1) (Yj [] Aqb)
 ·have h3:¬((k:Int)<(els xs).length):=Gqd h
  refine Wz [30,101] ?_
  exact E_w [] J (Xk (Gqb J).symm)):G:=h
theorem Bqe {G:Prop} (h:G:=by
 have hlen:=Y7 xs
 have hw:Enc.wt xs=xs.length+wts xs:=rfl
 have hw2:=va_ xs
 refine Con.o vb_ vc_ fun E=>?_;refine Wz [23,11,25,251,16,51] ?_;refine A_lt xs.length (fun k => [(0,L xs),(3,Aqg 0),(4,I k)]) (fun k => [.row vd_ (part xs ve_ k)]) (Yk [0] Aqc J (Vy (Kd xs _)) (.c J (.c J (.c J (.nil))))) ?_
 intro m_A k hk_A
 refine Wz [114] ?_
 refine Xb J (fun h=>?_) (fun h=>?_)
 ·have h3:k<xs.length:=Bqx
  have hat:=Y4 h3
  have hz:=Ka xs ve_ h3
  have hpl:(k:Int)<(part xs ve_ k).length:=Bxr
  have hc:=vf_ xs[k] (by show (0:Nat)≤_; omega)
  refine Wz [9,27,141,0,78] ?_;refine kc1 hc ?_;refine Wz [204,206,130] ?_
  exact Bjj
 ·have h3:¬((k:Int)<(els xs).length):=Gqd h
  refine Wz [74] ?_
  exact Xp J J (Yh [0] Aqc J (Vy (Z9 xs _ Aqa).symm) J)):G:=h
theorem Bqf {G:Prop} (h:G:=by
 have hlen:=Y7 xs
 have hw:Enc.wt xs=xs.length+wts xs:=rfl
 refine Con.o va_ vb_ fun E=>?_;refine vc_ ?_;refine A_lt xs.length (fun k => [(0,L xs),(3,Aqg 0),(4,I k)]) (fun k => [.row vd_ (part xs ve_ k)]) (Yk [0] Aqc J (Vy (Kd xs _)) (.c J (.c J (.c J (.nil))))) ?_
 intro m_A k hk_A
 refine Wz [114] ?_
 refine Xb J (fun h=>?_) (fun h=>?_)
 ·have h3:k<xs.length:=Bqx
  have hat:=Y4 h3
  have hz:=Ka xs ve_ h3
  have hpl:(k:Int)<(part xs ve_ k).length:=Bxr
  have hwt:Enc.wt xs[k]≤wts xs:=Um xs _ (Gqe h3)
  have hc:=vf_ xs[k] Aqa 
  refine Wz [9,27,141,0,78] ?_;refine kc1 hc ?_;refine Wz [204,206,130] ?_
  exact Bjj
 ·have h3:¬((k:Int)<(els xs).length):=Gqd h
  refine Wz [74] ?_
  exact Xp J J (Yh [0] Aqc J (Vy (Z9 xs _ Aqa).symm) J)):G:=h
theorem Bqg {G:Prop} (h:G:=by
 by_cases h0:k=0
 ·have hb:decide (k=0)=true:=Gqb h0
  rw[show sizeOf k=12 by rw[sizeOf,if_pos h0]]
  refine Con.o va_ vb_ fun E=>?_;refine Wz [95,1,34,3,20,8,117,45,198,89] ?_
  exact Bzh
 have hb0:decide (k=0)=false:=Gqa h0
 by_cases h1:k=1
 ·have hb:decide (k=1)=true:=Gqb h1
  rw[show sizeOf k=4 by rw[sizeOf,if_neg h0,if_pos h1]]
  refine Con.o va_ vb_ fun E=>?_;refine Wz [95,1,34,3,20,8,90,3,20,8,117,45,198,89] ?_
  exact Bzh
 have hb1:decide (k=1)=false:=Gqa h1
 by_cases h2:k=2
 ·have hb:decide (k=2)=true:=Gqb h2
  rw[show sizeOf k=8 by rw[sizeOf,if_neg h0,if_neg h1,if_pos h2]]
  refine Con.o va_ vb_ fun E=>?_;refine Wz [95,1,34,3,20,8,90,3,20,8,90,3,20,8,117,45,198,89] ?_
  exact Bzh
 have hb2:decide (k=2)=false:=Gqa h2
 rw[show sizeOf k=0 by rw[sizeOf,if_neg h0,if_neg h1,if_neg h2]]
 refine Con.o va_ vb_ fun E=>?_;refine Wz [95,1,34,3,20,8,90,3,20,8,90,3,20,8,90,149,133,101] ?_
 exact E_w [] J J):G:=h
theorem Bqh {G:Prop} (h:G:=by
 refine Con.o va_ vb_ fun E=>?_;refine Wz [23,23,23,107] ?_;refine A_lt s.size (fun k => [(0,S s),(3,I (sumA s k)),(4,I (sumB s k)),(5,I k)]) (fun k => []) (Yj [] Aqb) ?_
 intro m_A k hk_A
 refine Wz [15,38,58] ?_
 refine Xb J (fun h=>?_) (fun h=>?_)
 ·have h3:k<s.size:=Bqx
  have hb1:=sumA_lt s k
  have hb2:=sumB_lt s k
  obtain⟨t,ht⟩:∃ t,byteAt s (k:Int).toNat=t:=⟨_,rfl⟩
  have htb:0≤t∧t≤255:=ht▸Yy _ _
  have hmul:0≤t*(((k:Int)+1)%65521)∧t*(((k:Int)+1)%65521)≤255*65520:=by
   have h5:0≤((k:Int)+1)%65521∧((k:Int)+1)%65521≤65520:=Aqa
   exact⟨Int.mul_nonneg htb.1 h5.1,Int.mul_le_mul htb.2 h5.2 h5.1 Aqa⟩
  have e1:sumA s (k+1)=(sumA s k+t)%65521:=by rw[sumA,←ht]; rfl
  have e2:sumB s (k+1)=(sumB s k+t*(((k:Int)+1)%65521))%65521:=by rw[sumB,←ht]; rfl
  refine Wz [9,50,168,189,13,167,8,27,141,168,189,0,13,167,144,13,167,110] ?_
  exact .t (k+1) (Yk [] Aqc J Aqb (.c J (.cons (X0 e1.symm) (.cons (X0 e2.symm) (.c J (.nil))))))
 ·have h3:¬((k:Int)<s.size):=Gqd h
  have hk:k=s.size:=Aqa
  have hb1:=sumA_lt s k
  have hb2:=sumB_lt s k
  refine Wz [30,10,144,49,73] ?_
  exact E_w [] J (X0 (by rw[checksum,hk]))):G:=h
theorem Bqi {G:Prop} (h:G:=by
 have hn1:=hn.1
 have hlx:=Y7 xs
 have hly:=Y7 ys
 by_cases hl:xs.length=ys.length
 ·have hb:decide (((els xs).length:Int)≠((els ys).length:Int))=false:=by rw[hlx,hly,hl]; simp
  refine Con.o va_ vb_ fun E=>?_;refine Wz [95,25,0,25,22,28,41,25,138,34] ?_;refine A_lp xs.length (fun k=>xs.take k=ys.take k) (fun k => [(0,L xs),(1,L ys),(12,I (els xs).length),(13,I k)]) (fun k => []) Aqd (Yj [] Aqb) ?_
  intro m_A k hk_A hp_A
  refine Wz [3,58,4] ?_
  refine Xb J (fun h=>?_) (fun h=>?_)
  ·have h3:k<xs.length:=Bqx
   have h4:k<ys.length:=Aqa
   have hat:=Y4 h3
   have hat2:=Y4 h4
   by_cases he:xs[k]=ys[k]
   ·have hk:decide (xs[k]≠ys[k])=false:=by simp[he]
    refine Wz [9,11,16] ?_;refine Xi u8_0 u8_12 u8_13 J ?_;refine vc_ ?_
    exact .n (k+1) (eq_next h3 h4 hp_A he) (Yj [] Aqb)
   ·have hk:decide (xs[k]≠ys[k])=true:=by simp[he]
    refine Wz [9,11,16] ?_;refine Xi u8_0 u8_12 u8_13 J ?_;refine vd_ ?_
    exact Bz5
  ·have h3:¬((k:Int)<(els xs).length):=Gqd h
   refine Wz [30,101] ?_
   exact Bz6
 ·have hb:decide (((els xs).length:Int)≠((els ys).length:Int))=true:=Bxz
  refine Con.o va_ vb_ fun E=>?_;refine Wz [95,25,0,25,22,115] ?_
  exact E_w [] J (Xk (eq_len hl).symm)):G:=h
theorem Bqj {G:Prop} (h:G:=by
 have hl:=Y7 t.Inputs
 refine Con.o va_ vb_ fun E=>?_;refine Wz [96,109,237,125] ?_;refine zx (Qt.grdT J J J (.hit (.hit .stop)) (fun hgrd=>Qj J J (vc_ t.Inputs g) J)) J ?_;refine Wz [66,36] ?_
 exact E_w [] J (Xk (by rw[hl]; rfl))):G:=h
theorem Bqk {G:Prop} (h:G:=by
 obtain⟨gL,gS,gD,gSc,gRest⟩:=hg
 have hl:=Y7 m.Scripts
 refine Con.o va_ vb_ fun E=>?_;refine Wz [43,40,160,103,195,217,241] ?_;refine zx (Qt.grdF J J J (.hit (.hit (.hit (.hit .stop)))) (fun hgrd=>Kx J J J J)) J ?_;refine Wz [75] ?_
 refine Xb J (fun h=>?_) (fun h=>?_)
 ·simp only[Gqq,decide_eq_true_eq] at h
  rw[show trueIn m p t = -1 from dif_neg Aqa]
  refine Wz [69] ?_
  exact Bzh
 simp only[Gqm,decide_eq_false_iff_not] at h
 have hi:p.toNat<m.Scripts.length:=Aqa
 have hat:(els m.Scripts)[p.toNat]? = some (Enc.e (m.Scripts[p.toNat]'hi)):=by simp[els,hi]
 have hc:=vc_ (m.Scripts[p.toNat]'hi) m.Delay t (gSc.2 _ (Gqe hi)) ht
 rw[show trueIn m p t=scriptIn (m.Scripts[p.toNat]'hi) m.Delay t from dif_pos Aqa]
 refine Wz [108] ?_;refine Xi u8_25 u8_26 u8_27 J ?_;refine Wz [67,64,67] ?_;refine Uq (Qj J J (hc) J) J ?_;refine Wz [162,12,1,73] ?_
 exact E_w [] J J):G:=h
theorem Bql {G:Prop} (h:G:=by
 have hd:=va_ s p hs hp
 cases hv:decVar s p with
 |none =>
  rw[hv] at hd
  rw[show unpackText s p=none by rw[unpackText,hv]]
  refine Con.o vb_ vc_ fun E=>?_;refine Wz [3,134,8,10,148,102,72,55,182,83,3,134,76] ?_
  exact Bzn
 | some r =>
  obtain⟨n,k⟩:=r
  rw[hv] at hd
  have hm:=Y2 hv
  by_cases hbig:(s.size:Int)-p-k<n
  ·have hb:decide ((s.size:Int)-p-k<n)=true:=Gqb hbig
   rw[show unpackText s p=none by rw[unpackText,hv]; exact if_pos hbig]
   refine Con.o vb_ vc_ fun E=>?_;refine Wz [3,134,8,10,148,102,72,14,21,38,2,21,29,2,21,29,2,111,5,32,3,134,76] ?_
   exact Bzn
  have hb:decide ((s.size:Int)-p-k<n)=false:=Gqa hbig
  rw[show unpackText s p=some (s.extract (p+k).toNat (p+k+n).toNat,k+n.toNat) by rw[unpackText,hv]; exact if_neg hbig]
  refine Con.o vb_ vc_ fun E=>?_;refine Wz [3,134,8,10,148,102,72,14,21,38,2,21,29,2,21,29,2,111,5,28,50,13,141,13,0,13,266,141,13,134,36] ?_
  exact Xr J J J J (Yh [] Aqc J J (tu3 Aqa))):G:=h
theorem Bqm {G:Prop} (h:G:=by
 have c1:=va_ b.X 0 1000
 have c2:=va_ b.Y 0 1000
 have c3:=va_ b.Aim (-1) 1
 rw[Zm.2 hx] at c1
 rw[Zm.2 hy] at c2
 rw[Zm.2 ha] at c3
 refine Con.o vb_ vc_ fun E=>?_;refine Wz [59,1,4,18] ?_;refine kc0 c1 ?_;refine Wz [6,71] ?_;refine kc0 c2 ?_;refine Wz [2,6,5,71] ?_;refine kc0 c3 ?_;refine Wz [2,6,5,28,173,13,31,13,31,144,137,39,73] ?_
 exact Xm J J J J (Yh [] Aqc J J J)):G:=h
theorem Bqn {G:Prop} (h:G:=by
 have hlx:=Y7 xs
 refine Con.o va_ vb_ fun E=>?_;refine Wz [23,95,25,138,34] ?_
 refine AWP.pre ?_ (W_nil 3 1 J)
 refine A_lt xs.length (fun k => [(3,Aqg 0),(6,L xs),(7,I (els xs).length),(8,I k)]) (fun k => [.row 1 (els (xs.take k))]) (Yj [0] Aqb) ?_
 intro m_A k hk_A
 have hl2:(els (xs.take k)).length=k:=Bq4
 refine Wz [3,58,4] ?_
 refine Xb J (fun h=>?_) (fun h=>?_)
 ·have h3:k<xs.length:=Bqx
  have hat:=Y4 h3
  refine vc_ ?_;refine M1 (Kr J J (vd_ xs[k] (hr _ (Gqe h3))) J J J) J J ?_;refine Wz [116,122,26,53,104] ?_
  exact .t (k+1) (Yk [0] Aqc J (Vy (Zb h3)) (.c J (.c J (.c J (.c J (.nil))))))
 ·have h3:¬((k:Int)<(els xs).length):=Gqd h
  have hk:xs.take k=xs:=Gqj Aqa 
  refine Wz [74] ?_
  exact Xp J J (Yh [0] Aqc J (Vy Bq2) J)):G:=h
theorem Bqo {G:Prop} (h:G:=by
 refine Con.o va_ vb_ fun E=>?_;refine Wz [96,18] ?_;refine kc0 (vc_ q.Newest 0 1000001) ?_;refine Wz [125] ?_;refine zx (Qt.grdT J J J (.hit (.hit .stop)) (fun hgrd=>Qj J J (vc_ q.Their 0 1000001) J)) J ?_;refine Wz [66,125] ?_;refine zx (Qt.grdT J J J (.hit (.hit .stop)) (fun hgrd=>Qj J J (vc_ q.At 0 1000001) J)) J ?_;refine Wz [66,125] ?_;refine zx (Qt.grdT J J J (.hit (.hit .stop)) (fun hgrd=>Qj J J (vc_ q.Trip 0 1000001) J)) J ?_;refine Wz [66,125] ?_;refine zx (Qt.grdT J J J (.hit (.hit .stop)) (fun hgrd=>Qj J J (vc_ q.Samples 0 1000001) J)) J ?_;refine Wz [66,36] ?_
 exact E_w [] J J):G:=h
theorem Bqp {G:Prop} (h:G:=by
 have hn:=Y7 xs
 have hn1:=g.1
 refine Con.o va_ vb_ fun E=>?_;refine Wz [23,107] ?_;refine A_lt xs.length (fun i => [(0,Aqg 0),(1,I (nkEs ((els xs).take i) k)),(5,I i)]) (fun i => [.row 1 (mkEs ((els xs).take i) k++(els xs).drop i),.gh 0 (.c (Aqk 0))]) (Yj [0,1] Aqb) ?_
 intro m_A i hk_A
 have hl2:=Zw (es:=els xs) (i:=i) k
 by_cases h3:i<xs.length
 ·have hat:(els xs)[i]? = some (Enc.e xs[i]):=Y4 h3
  have hg:=g.2 _ (Gqe h3)
  have hl:=Int.le_trans (Z0 hat k) hb
  have hi:=Z1 ((els xs).take i) k
  have hend:=Zu hat k
  have hnx:=Z3 hat k
  have hq:=mt_lt hat k
  have hse:=Zy hat k
  rw[hse]
  generalize mkEs ((els xs).take i) k++(els xs).drop i=R at hq hend hl2 ⊢
  generalize nkEs ((els xs).take i) k=K at hl hi hend hnx ⊢
  have hq:(i:Int).toNat<R.length:=hq
  have hco:Enc.e xs[i] = [.sl vc_ (els xs[i])]:=Aqb
  rw[hco] at hl hnx hend
  simp only[mkE,nkE,mkT,nkT] at hl hnx hend
  obtain⟨K1,h1,m1⟩:=gK (els xs[i]) (K)
  simp only[h1] at hl hnx hend
  have c1:=vd_ xs[i] K hg Aqa Aqa 
  rw[h1] at c1
  obtain⟨cs,hcs,hend⟩:=gS hend
  generalize hds:Enc.e xs[i]=ds
  rw[show ds=pm cs ds 0 from rfl]
  have hdl:1=ds.length:=Bq1
  have hlc:cs.length=ds.length:=Bxf
  have u0:cs[0]? = some (.sl vc_ (mkEs (els xs[i]) K)):=Bqw
  have d0:ds[0]? = some (.sl vc_ (els xs[i])):=Bq1
  have f3:decide ((i:Int)<((R.set i (pm cs ds 0)).length:Int))=true:=Gqb Bxc
  clear hcs hds hse
  refine Wz [15,33,77,27,0,297,185,0] ?_;refine X9 c1 J J J J J J J J Aqe Aqe Aqe Aqe  (z1 J ?_);refine AL.kp [1,0,5,0] [(0,Aqg 0)] 2 [(0,.row 1 (R.set i (pm cs ds 1)))] ?_;refine Wz [130] ?_
  replace hend:=hend.trans (congrArg (R.set i) (show cs=pm cs ds 1 by rw[pm,Gqj (show cs.length≤1 by rw[hlc,←hdl]; exact Gqi _),List.drop_of_length_le Bxg,Gqy]))
  exact .t (i+1) (Yk [0,1] Aqc J (Bxh) (.c J (.cons (X0 hnx.symm) (.c J (.nil)))))
 ·have f3:decide ((i:Int)<((mkEs ((els xs).take i) k++(els xs).drop i).length:Int))=false:=Gqa Aqa 
  have hk:=Gqj (show (els xs).length≤i by omega)
  have he:=Zv (show (els xs).length≤i by omega) k
  refine Wz [15,33,92,74] ?_
  exact Xp J J (Yh [0,1] Aqc J (row2 he.symm) (X0 Bq2))):G:=h
theorem Bqq {G:Prop} (h:G:=by
 have hd:=va_ delta 0 Aqa ⟨Aqa,Aqa⟩
 cases hv:decVar delta 0 with
 |none =>
  rw[hv] at hd
  rw[show applyD base delta=none by rw[applyD,hv]]
  refine Con.o vb_ vc_ fun E=>?_;refine Wz [3,26,44,148,102,72,32,3,26,76] ?_
  exact Bzj
 | some r =>
  obtain⟨n,j⟩:=r
  rw[hv] at hd
  have hm:=Y2 hv
  have hz:=vd_ (delta.extract j delta.size) Bxl
  have he:=unpackZ_eq (delta.extract j delta.size) Bxl
  try rw[←he] at hz
  cases hu:unpackZ true (delta.extract j delta.size) with
  |none =>
   rw[hu] at hz
   rw[show applyD base delta=none by rw[applyD,hv]; simp only[hu]]
   refine Con.o vb_ vc_ fun E=>?_;refine Wz [3,26,44,148,102,72,28,10,277] ?_;refine kc1 hz ?_;refine Wz [120,26,72,55,83,3,26,76] ?_
   exact Bzj
  | some x =>
   rw[hu] at hz
   have hx:=ve_ base x Aqa (by have:=unpackZ_len hu; omega)
   by_cases hn:(x.size:Int)=n
   ·have e1:decide ((x.size:Int)≠n)=false:=Gqa (fun q=>q hn)
    rw[show applyD base delta=some (xorText base x) by rw[applyD,hv]; simp only[hu]; rw[if_pos hn]]
    refine Con.o vb_ vc_ fun E=>?_;refine Wz [3,26,44,148,102,72,28,10,277] ?_;refine kc1 hz ?_;refine Wz [120,26,72,14,38,2,21,22,5,28,10] ?_;refine kc0 hx ?_;refine Wz [26,36] ?_
    exact Bzj
   ·have e1:decide ((x.size:Int)≠n)=true:=Gqb hn
    rw[show applyD base delta=none by rw[applyD,hv]; simp only[hu]; rw[if_neg hn]]
    refine Con.o vb_ vc_ fun E=>?_;refine Wz [3,26,44,148,102,72,28,10,277] ?_;refine kc1 hz ?_;refine Wz [120,26,72,14,38,2,21,22,5,32,3,26,76] ?_
    exact Xq J J J (Yh [] Aqc J J J)):G:=h
theorem Bqr {G:Prop} (h:G:=by
 have c1:=va_ b.size
 have c2:=vb_ a b Aqa Aqa 
 have hx:(xorText a b).size=b.size:=by
  have:=xorL_len a b
  have h4:b.data.toList.length=b.size:=Aqd
  show ((xorL a b).toArray).size=b.size
  simp
  omega
 have c3:=vc_ (xorText a b) Aqa 
 have hsz:=deltaT_size a b
 rw[deltaT,ByteArray.size_append] at hsz
 rw[deltaT]
 refine Con.o vd_ ve_ fun E=>?_;refine Wz [23,11,38] ?_;refine kc0 c1 ?_;refine Wz [141] ?_;refine kc0 c2 ?_;refine kc0 c3 ?_;refine Wz [254,36] ?_
 exact E_w [] J J):G:=h
theorem Bqs {G:Prop} (h:G:=by
 have c1:=va_ x g
 have hlu:=Y7 x.Used
 have hlt:=Y7 x.Tracks
 rw[canAdv]
 cases ok:peerOk x with
 |false =>
  rw[ok] at c1
  refine Con.o vb_ vc_ fun E=>?_;refine Wz [43,16,278,136] ?_;refine Uq (Qj J J (c1) J) J ?_;refine Wz [118,199,84,118,127,127,84,162,12,1,73] ?_
  exact Bzh
 |true =>
 rw[ok] at c1
 obtain⟨m,hm,hml⟩:=me_at ok
 have hmt:x.Me.toNat=m:=Aqa
 rw[hmt,Zn hml]
 have hli:=Y7 x.Tracks[m].Inputs
 have hat:(els x.Tracks)[x.Me.toNat]? = some (Enc.e x.Tracks[m]):=by rw[hmt]; exact Y4 hml
 rw[←hlu,←hli]
 by_cases hu:((els x.Used).length:Int)<x.Ahead
 case neg =>
  have f1:decide (((els x.Used).length:Int)<x.Ahead)=false:=Gqa hu
  rw[f1]
  refine Con.o vb_ vc_ fun E=>?_;refine Wz [43,16,278,136] ?_;refine Uq (Qj J J (c1) J) J ?_;refine Wz [17,24,212,24,213,88,118,127,127,84,162,12,1,73] ?_
  exact Bzh
 have f1:decide (((els x.Used).length:Int)<x.Ahead)=true:=Gqb hu
 rw[f1]
 refine Con.o vb_ vc_ fun E=>?_;refine Wz [43,16,278,136] ?_;refine Uq (Qj J J (c1) J) J ?_;refine Wz [17,24,212,24,213,88,17,24,24,156,228,164,212,152,24] ?_;refine Uq (Qt.yes J J J (Kz J J J J)) J ?_;refine Wz [88,162,12,1,73] ?_
 exact E_w [] J J):G:=h
theorem Bqt {G:Prop} (h:G:=by
 have hn:=Y7 xs
 have hn1:=g.1
 have hm:=Zx (els xs) k
 refine Con.o va_ vb_ fun E=>?_;refine Wz [23,107] ?_;refine A_lt xs.length (fun i => [(0,.o (.c (.rd [] (.sl 1 (mkEs (els xs) k))))),(1,I (nkEs ((els xs).take i) k)),(5,I i)]) (fun i => []) (Yj [] Aqb) ?_
 intro m_A i hk_A
 by_cases h3:i<xs.length
 ·have f3:decide ((i:Int)<((mkEs (els xs) k).length:Int))=true:=Gqb Aqa 
  have hat:(els xs)[i]? = some (Enc.e xs[i]):=Y4 h3
  have hg:=g.2 _ (Gqe h3)
  have hl:=Int.le_trans (Z0 hat k) hb
  have hi:=Z1 ((els xs).take i) k
  have hnx:=Z3 hat k
  have hma:=mt_at hat k
  generalize nkEs ((els xs).take i) k=K at hl hi hnx hma ⊢
  replace hma:(mkEs (els xs) k)[(i:Int).toNat]? = some (mkE (Enc.e xs[i]) K):=hma
  have hco:Enc.e xs[i] = [.sl vc_ (els xs[i])]:=Aqb
  rw[hco] at hl hnx hma
  simp only[mkE,nkE,mkT,nkT] at hl hnx hma
  obtain⟨K1,h1,m1⟩:=gK (els xs[i]) (K)
  simp only[h1] at hl hnx hma
  have c1:=vd_ xs[i] K hg Aqa Aqa 
  rw[h1] at c1
  have n1:decide (K1<0)=false:=Gqa Aqa 
  refine Wz [147,77,10,158,48] ?_;refine kc0 c1 ?_;refine Wz [44,19,81] ?_
  exact Bzm
 ·have f3:decide ((i:Int)<((mkEs (els xs) k).length:Int))=false:=Gqa Aqa 
  have hk:=Gqj (show (els xs).length≤i by omega)
  refine Wz [147,92,74] ?_
  exact E_w [] J (X0 Bq2)):G:=h
theorem Bqu {G:Prop} (h:G:=by
 have hlen:=Y7 xs
 have hw:Enc.wt xs=xs.length+wts xs:=rfl
 refine Con.o va_ vb_ fun E=>?_;refine Wz [23,11,25] ?_;refine M1 (Vi vc_ J J J J Aqa Aqa Aqa J Aqc) J J ?_;refine Wz [16,51] ?_;refine A_lt xs.length (fun k => [(0,L xs),(3,Aqg 0),(4,I k)]) (fun k => [.row 1 (part xs [.sl vc_ []] k)]) (Yk [0] Aqc J (Vy (Kd xs _)) (.c J (.c J (.c J (.nil))))) ?_
 intro m_A k hk_A
 refine Wz [114] ?_
 refine Xb J (fun h=>?_) (fun h=>?_)
 ·have h3:k<xs.length:=Bqx
  have hat:=Y4 h3
  have hz:=Ka xs [.sl vc_ []] h3
  have hpl:(k:Int)<(part xs [.sl vc_ []] k).length:=Bxr
  have hwt:Enc.wt xs[k]≤wts xs:=Um xs _ (Gqe h3)
  have hc:=vd_ xs[k] Aqa 
  refine Wz [9,27,141,0,100] ?_;refine kc1 hc ?_;refine Wz [204,170,130] ?_
  exact .t (k+1) (Yk [0] Aqc J (Vy (Kc xs [.sl vc_ []] h3 _ (by rfl) (by rfl)).symm) (.c J (.c J (.c J (.nil)))))
 ·have h3:¬((k:Int)<(els xs).length):=Gqd h
  refine Wz [74] ?_
  exact Xp J J (Yh [0] Aqc J (Vy (Z9 xs _ Aqa).symm) J)):G:=h
theorem Bqv {G:Prop} (h:G:=by
 subst e
 have hn1:=hn.1
 have hlx:=Y7 xs
 have hb:decide (((els xs).length:Int)≠((els xs).length:Int))=false:=Aqd
 refine Con.o va_ vb_ fun E=>?_;refine Wz [95,25,0,25,22,135,51] ?_;refine A_lt xs.length (fun k => [(0,L xs),(1,L xs),(5,I k)]) (fun k => []) (Yj [] Aqb) ?_
 intro m_A k hk_A
 refine Wz [114] ?_
 refine Xb J (fun h=>?_) (fun h=>?_)
 ·have h3:k<xs.length:=Bqx
  have hat:=Y4 h3
  have hc:=vc_ xs[k] xs[k] (hn.2 _ (Gqe h3))
  rw[Gqb rfl] at hc
  refine Wz [9,4,214,35,64,35,64] ?_;refine Uq (Qj J J (hc) J) J ?_;refine Wz [142,12,81] ?_
  exact .t (k+1) (Yj [] Aqb)
 ·have h3:¬((k:Int)<(els xs).length):=Gqd h
  refine Wz [30,101] ?_
  exact E_w [] J (Xk (Gqb J).symm)):G:=h
theorem Aqa {p:Prop} (h:p:=by omega):p:=h
theorem Aqb {p:Prop} (h:p:=by kernel_rfl):p:=h
theorem Aqc {p:Prop} (h:p:=by decide):p:=h
theorem Aqd {p:Prop} (h:p:=by simp):p:=h
theorem Aqe {p:Prop} (h:p:=by assumption):p:=h
theorem J.{u} {α:Sort u} {a:α}:a=a:=rfl
theorem Gqa {p:Prop} [Decidable p]:¬p→Decidable.decide p=Bool.false:=@decide_eq_false p _
theorem Gqb {p:Prop} [inst:Decidable p]:p→Decidable.decide p=Bool.true:=@decide_eq_true p inst
theorem Gqc {p:Prop} [inst:Decidable p]:Decidable.decide p=Bool.true→p:=@of_decide_eq_true p inst
theorem Gqd {p:Prop} [inst:Decidable p]:Decidable.decide p=Bool.false→¬p:=@of_decide_eq_false p inst
theorem Gqe.{u_1} {α:Type u_1} {l:List α} {n:Nat} (h:n<l.length):l[n]∈l:=@List.getElem_mem α l n h
theorem Gqf.{u_1} {α:Type u_1} {l:List α} {i:Nat} {a:α}:l.getD i a=l[i]?.getD a:=@List.getD_eq_getElem?_getD α l i a
theorem Gqg.{u_1} {α:Type u_1} {l:List α} {i:Nat} (h:i<l.length):l[i]? = Option.some l[i]:=@List.getElem?_eq_getElem α l i h
theorem Gqh (a b:Bool):((a&&b)=Bool.true)=(a=Bool.true∧b=Bool.true):=@Bool.and_eq_true a b
theorem Gqi (n:Nat):n≤n:=@Nat.le_refl n
theorem Gqj.{u_1} {α:Type u_1} {i:Nat} {l:List α} (h:l.length≤i):List.take i l=l:=@List.take_of_length_le α i l h
theorem Gqk.{u_1, u_2} {α:Type u_1} {β:Type u_2} {f:α→β} {l:List α} {i:Nat}:(List.map f l)[i]? = Option.map f l[i]? := @List.getElem?_map α β f l i
theorem Gql.{u} {α:Type u} {ass bs:List α}:(ass++bs).length=ass.length+bs.length:=@List.length_append α ass bs
theorem Gqm {x y:Bool}:(x || y)=Bool.false↔x=Bool.false∧y=Bool.false:=@Bool.or_eq_false_iff x y
theorem Gqn.{u_1} {α:Type u_1} {l:List α} {i:Nat} {a:α} (e:l[i]? = Option.some a):a∈l:=@List.mem_of_getElem? α l i a e
theorem Gqo.{u_1} {α:Type u_1} {i:Nat} {a:α} {l:List α}:l[i]? = Option.some a↔∃ h, l[i]=a:=@List.getElem?_eq_some_iff α i a l
theorem Gqp.{u_1} {α:Type u_1} {p:α→Bool} {l:List α}:l.all p=Bool.true↔∀ (x:α), x∈l→p x=Bool.true:=@List.all_eq_true α p l
theorem Gqq (a b:Bool):((a || b)=Bool.true)=(a=Bool.true∨b=Bool.true):=@Bool.or_eq_true a b
theorem Gqr (n m:Nat):n<m∨n≥m:=@Nat.lt_or_ge n m
theorem Gqs.{u_1} {α:Type u_1} {a:α} {s t:List α}:a∈s++t↔a∈s∨a∈t:=@List.mem_append α a s t
theorem Gqt.{u_1} {α:Type u_1} {L₁ L₂:List (List α)}:(L₁++L₂).flatten=L₁.flatten++L₂.flatten:=@List.flatten_append α L₁ L₂
theorem Gqu.{u} {α:Type u} {ass:List α} {i:Nat} {a:α}:(ass.set i a).length=ass.length:=@List.length_set α ass i a
theorem Gqv.{u_1, u_2} {α:Type u_1} {β:Type u_2} {b:β} {f:α→β} {l:List α}:b∈List.map f l↔∃ a, a∈l∧f a=b:=@List.mem_map α β b f l
theorem Gqw.{u} {α:Type u} {a:α} {ass:List α}:(a::ass).length=ass.length+1:=@List.length_cons α a ass
theorem Gqx {n m:Nat} (h:n.ble m=Bool.true):n≤m:=@Nat.le_of_ble_eq_true n m h
theorem Gqy.{u} {α:Type u} (ass:List α):ass ++ []=ass:=@List.append_nil α ass
theorem Gqz.{u} {α:Type u} (ass bs cs:List α):ass++bs++cs=ass++(bs++cs):=@List.append_assoc α ass bs cs
theorem Gq0 (b:Bool):((!b)=Bool.false)=(b=Bool.true):=@Bool.not_eq_false' b
theorem Gq1.{u_1, u_2} {α:Type u_1} {β:Type u_2} (a:α) (f:α→β):Option.map f (Option.some a)=Option.some (f a):=@Option.map_some α β a f
theorem Gq2.{u_1} {α:Type u_1} {l₁ l₂:List α} {i:Nat} (hn:i<l₁.length):(l₁++l₂)[i]? = l₁[i]? := @List.getElem?_append_left α l₁ l₂ i hn
theorem Gq3.{u_1} {α:Type u_1} {l₁ l₂:List α} {i:Nat}:l₁.length≤i→(l₁++l₂)[i]? = l₂[i-l₁.length]? := @List.getElem?_append_right α l₁ l₂ i
theorem Gq4.{u_1} {α:Type u_1} {i:Nat} {l:List α}:(List.take i l).length=Min.min i l.length:=@List.length_take α i l
theorem Gq5.{u_1} {α:Type u_1} {xs:Array α} {i:Nat} {d:α}:xs.getD i d=xs[i]?.getD d:=@Array.getD_eq_getD_getElem? α xs i d
theorem Gq6 (b:Bool):((!b)=Bool.true)=(b=Bool.false):=@Bool.not_eq_true' b
theorem Gq7.{u_1} {α:Type u_1} {xs:List α} {i j:Nat}:(List.drop i xs)[j]? = xs[i+j]? := @List.getElem?_drop α xs i j
theorem Gq8 {n m:Nat}:n.beq m=Bool.true→n=m:=@Nat.eq_of_beq_eq_true n m
theorem Gq9.{u_1} {α:Type u_1} {i:Nat} {l:List α}:(List.drop i l).length=l.length-i:=@List.length_drop α i l
theorem Gxa.{u_1} {α:Type u_1} {l:List α} {i j:Nat} (h:i≠j) {a:α}:(l.set i a)[j]? = l[j]? := @List.getElem?_set_ne α l i j h a
theorem Gxb.{u_1} {α:Type u_1} {i:Nat} {l:List α} (h:i<l.length):List.take (i+1) l=List.take i l ++ [l[i]]:=@List.take_succ_eq_append_getElem α i l h
theorem Gxc.{u_1} {α:Type u_1} (y:α) {a:α} {l:List α}:a∈l→a∈y::l:=@List.mem_cons_of_mem α y a l
theorem Gxd.{u_1} {α:Type u_1} {a b:α}:a ∈ [b]↔a=b:=@List.mem_singleton α a b
theorem Gxe.{u_1} {α:Type u_1} {xs:Array α} {i:Nat} (h:i<xs.size):xs[i]? = Option.some xs[i]:=@Array.getElem?_eq_getElem α xs i h
theorem Gxf.{u_1} {α:Type u_1} {a:α} {l:List α}:(a::l)[0]? = Option.some a:=@List.getElem?_cons_zero α a l
theorem Gxg.{u_1} {α:Type u_1} {l:List α} {i:Nat} {a:α} (h:i<l.length):(l.set i a)[i]? = Option.some a:=@List.getElem?_set_self α l i a h
theorem Gxh.{u_1} {α:Type u_1} {l:List α} {i j:Nat}:(List.take i l)[j]? = if j<i then l[j]? else Option.none:=@List.getElem?_take α l i j
theorem Gxi.{u_1} {α:Type u_1} {a:α} {l:List α}:(a::l).Nodup↔¬a∈l∧l.Nodup:=@List.nodup_cons α a l
theorem Gxj.{u_1} {α:Type u_1} {a:α} {i:Nat} {l:List α} (h:a∈List.drop i l):a∈l:=@List.mem_of_mem_drop α a i l h
theorem Gxk (b:Bool):(b&&Bool.false)=Bool.false:=@Bool.and_false b
theorem Gxl {a:ByteArray} {b e:Nat}:(a.extract b e).size=Min.min e a.size-b:=@ByteArray.size_extract a b e
theorem Gxm (n:Nat):0≤n:=@Nat.zero_le n
theorem Gxn.{u_1} {α:Type u_1} {a:α} {L:List (List α)}:a∈L.flatten↔∃ l, l∈L∧a∈l:=@List.mem_flatten α a L
theorem Gxo {n m k:Nat}:n≤m→m≤k→n≤k:=@Nat.le_trans n m k
theorem Gxp {x y:Bool}:(x&&y)=Bool.false↔x=Bool.false∨y=Bool.false:=@Bool.and_eq_false_iff x y
theorem Gxq.{u_1} {α:Type u_1} (i:Nat) (l:List α):List.take i l++List.drop i l=l:=@List.take_append_drop α i l
theorem Gxr.{u_1} {α:Type u_1} {i:Nat} {l:List α} (h:i<l.length):List.drop i l=l[i]::List.drop (i+1) l:=@List.drop_eq_getElem_cons α i l h
theorem Gxs.{u_1} {α:Type u_1} {l:List α}:List.take l.length l=l:=@List.take_length α l
theorem Gxt.{u_1} {α:Type u_1} {i:Nat} {a:α} {l:List α} (h:a∈List.take i l):a∈l:=@List.mem_of_mem_take α i a l h
theorem Gxu (b:Bool):(¬b=Bool.true)=(b=Bool.false):=@Bool.not_eq_true b
theorem Gxv.{u_1} {α:Type u_1} {l:List α} {i:Nat} {a b:α}:a∈l.set i b→a∈l∨a=b:=@List.mem_or_eq_of_mem_set α l i a b
theorem Gxw.{u_1} {α:Type u_1} {a:α} {i:Nat} {l:List α}:(a::l)[i+1]? = l[i]? := @List.getElem?_cons_succ α a i l
theorem Gxx (n m k:Nat):n+m+k=n+(m+k):=@Nat.add_assoc n m k
theorem Gxy.{u_1} {α:Type u_1} {l:List α}:0<l.length↔l ≠ []:=@List.length_pos_iff α l
theorem Gxz (a:Nat):a.beq a=Bool.true:=@Nat.beq_refl a
theorem Gx0 {n m:Nat} (k:Nat) (h:n≤m):n*k≤m*k:=@Nat.mul_le_mul_right n m k h
theorem Gx1 (n:Nat):0+n=n:=@Nat.zero_add n
theorem Gx2 {n m k:Nat}:n<m→m≤k→n<k:=@Nat.lt_of_lt_of_le n m k
theorem Gx3.{u_1} {α:Type u_1} {a:α}:¬a ∈ []:=@List.not_mem_nil α a
theorem Gx4.{u} {α:Type u} {n:Nat} {a:α}:(List.replicate n a).length=n:=@List.length_replicate α n a
theorem Gx5 (n:Nat):n+0=n:=@Nat.add_zero n
theorem Gx6 (n:Nat):n-0=n:=@Nat.sub_zero n
theorem Gx7:Bool.false≠Bool.true:=@Bool.false_ne_true
theorem Gx8 (n:Nat):n-n=0:=@Nat.sub_self n
theorem Gx9 (x n:Nat):x &&& 2 ^ n-1=x%2 ^ n:=@Nat.and_two_pow_sub_one_eq_mod x n
structure Bx (G:Prop):Prop where
 h:G
structure Cd (c:List Nat):Prop where
structure Nt (n:Nat):Prop where
theorem Cd.e {G:Prop} (_:Cd []) (h:Bx G):G:=h.h
theorem Cd.p {n:Nat} {c:List Nat} (_:Cd (n::c)):Nt (n/13)∧Nt (n%13)∧Cd c:=⟨⟨⟩,⟨⟩,⟨⟩⟩
theorem N0 {G:Prop} (_:Nt 0) (h:G):G:=h
theorem N1 {G:Prop} (_:Nt 1) (h:G):G:=h
theorem N2 {G:Prop} (_:Nt 2) (h:G):G:=h
theorem N3 {G:Prop} (_:Nt 3) (h:G):G:=h
theorem N4 {G:Prop} (_:Nt 4) (h:G):G:=h
theorem N5 {G:Prop} (_:Nt 5) (h:G):G:=h
theorem N6 {G:Prop} (_:Nt 6) (h:G):G:=h
theorem N7 {G:Prop} (_:Nt 7) (h:G):G:=h
theorem N8 {G:Prop} (_:Nt 8) (h:G):G:=h
theorem N9 {G:Prop} (_:Nt 9) (h:G):G:=h
theorem Na {G:Prop} (_:Nt 10) (h:G):G:=h
theorem Nb {G:Prop} (_:Nt 11) (h:G):G:=h
theorem Nc {G:Prop} (_:Nt 12) (h:G):G:=h
set_option maxRecDepth 100000 in
theorem Wz {R G:Prop} (c:List Nat) (k:R) (h:Cd c→Bx R→Nt 0→Nt 0→G:=by intro c k a d; (repeat (have e:=Cd.p c; clear a d c; obtain⟨a,d,c⟩:=e; first | (guard_hyp a:Nt 0; first | (refine N0 d (z0 rfl ?_)) | (refine N1 d (Qe ?_);refine Q0 ?_) | (refine N2 d (z5 rfl ?_)) | (refine N3 d (Qd ?_);refine Qc ?_) | (refine N4 d (Qd ?_)) | (refine N5 d (zpF rfl ?_)) | (refine N6 d (zn rfl ?_)) | (refine N7 d (Qd ?_);refine Qc ?_;refine z4 rfl rfl rfl ?_) | (refine N8 d (z1 rfl ?_);refine Qe ?_;refine Q0 ?_) | (refine N9 d (Qh ?_);refine Q0 (Qd ?_);refine Qk ?_) | (refine Na d (Qd ?_);refine Qc (z0 rfl ?_);refine z0 rfl ?_) | (refine Nb d (Qd ?_);refine Qc ?_;refine z0 rfl ?_) | (refine Nc d (Up ?_))) | (guard_hyp a:Nt 1; first | (refine N0 d (z7 rfl (by omega) ?_)) | (refine N1 d (z0 rfl ?_);refine z5 rfl (z0 rfl ?_);refine z5 rfl ?_) | (refine N2 d (Qd ?_);refine zy (z0 rfl ?_);refine z0 rfl ?_) | (refine N3 d (z1 rfl ?_);refine zz ?_;refine Qd ?_) | (refine N4 d (Uq (Qa rfl rfl rfl) rfl ?_)) | (refine N5 d (Qd ?_);refine Qc (z2 rfl rfl rfl ?_);refine z3 rfl ?_) | (refine N6 d (z9a rfl (by assumption) ?_)) | (refine N7 d (z9e rfl (by assumption) ?_)) | (refine N8 d (z0 rfl ?_);refine z5 rfl ?_) | (refine N9 d (z9f rfl (by assumption) ?_)) | (refine Na d (Qd ?_);refine Qc (z1 rfl (Qe ?_));refine Q0 ?_) | (refine Nb d (Uq (Qt.yes rfl rfl rfl (Qf rfl rfl rfl rfl (by decide))) rfl ?_);refine Uq (Qt.yes rfl rfl rfl (Qg rfl rfl rfl rfl rfl)) rfl ?_) | (refine Nc d (zx (Vb rfl rfl rfl) rfl ?_))) | (guard_hyp a:Nt 2; first | (refine N0 d (z1 rfl ?_)) | (refine N1 d (Qc ?_);refine z0 rfl ?_) | (refine N2 d (Qe ?_);refine Q0 (Ql rfl (Qh ?_));refine Q0 ?_) | (refine N3 d (z8 rfl (by omega) ?_)) | (refine N4 d (Q9 ?_);refine T_x (T_x (Xl ?_));refine Q0 ?_) | (refine N5 d (z2 rfl rfl rfl ?_);refine z3 rfl ?_) | (refine N6 d (Qe ?_);refine Q0 ?_;refine Qm rfl ?_) | (refine N7 d (zx (Vc rfl rfl rfl rfl) rfl ?_)) | (refine N8 d (Qk ?_)) | (refine N9 d (Uq (Qa rfl rfl rfl) rfl ?_);refine Uq (Qa rfl rfl rfl) rfl ?_) | (refine Na d (z1 rfl ?_);refine zz (Xa ?_);refine F_r ?_) | (refine Nb d (Uq (Qf rfl rfl rfl rfl (by decide)) rfl ?_);refine Uq (Qg rfl rfl rfl rfl rfl) rfl ?_) | (refine Nc d (zx (Vd rfl rfl rfl) rfl ?_))) | (guard_hyp a:Nt 3; first | (refine N0 d (Qy rfl rfl rfl rfl rfl rfl rfl rfl rfl ?_);refine Qe ?_;refine Q0 ?_) | (refine N1 d (z1 rfl ?_);refine zz (Qd (zy ?_));refine z0 rfl ?_) | (refine N2 d (Qd ?_);refine zy ?_;refine z0 rfl ?_) | (refine N3 d (Qh ?_);refine Q0 ?_) | (refine N4 d (Qd ?_);refine Qc ?_;refine M1 (Qq rfl rfl rfl rfl) rfl rfl ?_) | (refine N5 d (z1 rfl ?_);refine zz (zy ?_);refine z0 rfl ?_) | (refine N6 d (Qd ?_);refine Qc (z1 rfl (zz ?_));refine Xa ?_) | (refine N7 d (zpT rfl ?_)) | (refine N8 d (Qy rfl rfl rfl rfl rfl rfl rfl rfl rfl ?_)) | (refine N9 d (zx (Vf rfl rfl rfl rfl) rfl ?_);refine z0 rfl ?_) | (refine Na d (z7 rfl (by omega) ?_);refine z1 rfl (Qe ?_);refine Q0 ?_) | (refine Nb d (Qd ?_);refine Qc (z0 rfl (z0 rfl ?_));refine z0 rfl ?_) | (refine Nc d (Qd ?_);refine Qc (z1 rfl (zz ?_));refine Qk ?_)) | (guard_hyp a:Nt 4; first | (refine N0 d (z2 rfl rfl rfl ?_);refine Q5 rfl rfl rfl rfl rfl rfl rfl rfl (Qe ?_);refine Q0 ?_) | (refine N1 d (Qe ?_)) | (refine N2 d (zx (Vm rfl rfl rfl rfl) rfl ?_)) | (refine N3 d (z0 rfl ?_);refine z6 rfl (z6 rfl (z6 rfl ?_));refine z6 rfl ?_) | (refine N4 d (Qd ?_);refine Qc (z2 rfl rfl rfl ?_);refine z4 rfl rfl rfl ?_) | (refine N5 d (B_r ?_);refine T_r (T_r (B_r (T_r ?_)));refine F_r ?_) | (refine N6 d (zx (Vh rfl rfl rfl rfl) rfl ?_);refine Qe ?_;refine Q0 ?_) | (refine N7 d (Qd ?_);refine Qc (M1 (Qq rfl rfl rfl rfl) rfl rfl ?_);refine M1 (Qx rfl rfl rfl) rfl rfl ?_) | (refine N8 d (z0 rfl ?_);refine zx (Qt.grdF rfl rfl rfl .stop (fun hgrd=>Qf rfl rfl rfl rfl (by decide))) rfl ?_;refine zx (Qt.grdF rfl rfl rfl (.hit .stop) (fun hgrd=>Qg rfl rfl rfl rfl rfl)) rfl ?_) | (refine N9 d (zx (Qz rfl rfl rfl) rfl ?_)) | (refine Na d (Uq (Qt.yes rfl rfl rfl (Qa rfl rfl rfl)) rfl ?_)) | (refine Nb d (zx (Q2 rfl rfl rfl rfl (by omega) (by assumption) rfl) rfl ?_);refine zx (Kw rfl rfl rfl rfl (by decide)) rfl ?_) | (refine Nc d (Uq (Q2 rfl rfl rfl rfl (by omega) (by assumption) rfl) rfl ?_);refine Uq (Vf rfl rfl rfl rfl) rfl ?_)) | (guard_hyp a:Nt 5; first | (refine N0 d (Qd ?_);refine Qc (z2 rfl rfl rfl (z3 rfl ?_));refine z0 rfl ?_) | (refine N1 d (zx (Kh rfl rfl rfl rfl) rfl ?_)) | (refine N2 d (Uq (Qf rfl rfl rfl rfl (by decide)) rfl ?_);refine Uq (Qg rfl rfl rfl rfl rfl) rfl ?_;refine Uq (Qa rfl rfl rfl) rfl ?_) | (refine N3 d (z2 rfl rfl rfl ?_);refine z3 rfl ?_;refine z0 rfl ?_) | (refine N4 d (Qd ?_);refine Qc (z1 rfl (zz (Xa (T_r ?_))));refine F_r ?_) | (refine N5 d (z1 rfl ?_);refine zz (Qd (zy (z0 rfl (z9a rfl (by assumption) (zz (Ql rfl (Qh (Q0 ?_))))))));refine zy (z2 rfl rfl rfl (z3 rfl ?_));refine z0 rfl ?_) | (refine N6 d (z0 rfl ?_);refine z5 rfl (z2 rfl rfl rfl (z5 rfl (z3 rfl ?_)));refine z5 rfl ?_) | (refine N7 d (z1 rfl ?_);refine zz (Qd (zy (z0 rfl ?_)));refine zn rfl ?_) | (refine N8 d (Xa ?_);refine F_r ?_) | (refine N9 d (Q9 ?_);refine T_x (T_x (Xl (Q0 (zy (z0 rfl (z1 rfl (zz (Xa ?_))))))));refine F_r ?_) | (refine Na d (zx (Vm rfl rfl rfl rfl) rfl ?_);refine Qe ?_;refine Q0 ?_) | (refine Nb d (z1 rfl ?_);refine zz (Xa (T_r ?_));refine F_r ?_) | (refine Nc d (z9a rfl (by assumption) ?_);refine zz (Qm rfl (Qh (Q0 (Qd ?_))));refine Qk ?_)) | (guard_hyp a:Nt 6; first | (refine N0 d (zx (Q2 rfl rfl rfl rfl (by omega) (by assumption) rfl) rfl ?_);refine zx (Vg rfl rfl rfl rfl rfl) rfl ?_) | (refine N1 d (z2 rfl rfl rfl ?_)) | (refine N2 d (z6 rfl ?_)) | (refine N3 d (Qe ?_);refine Q0 (Ql rfl (Qh (Q1 (Q0 (Qc (z0 rfl (z7 rfl (by omega) (z1 rfl (Qe ?_)))))))));refine Q0 ?_) | (refine N4 d (M1 (Qx rfl rfl rfl) rfl rfl ?_)) | (refine N5 d (zpT rfl ?_);refine zz ?_;refine Qm rfl ?_) | (refine N6 d (Uq (Qn rfl rfl rfl rfl) rfl ?_)) | (refine N7 d (z4 rfl rfl rfl ?_)) | (refine N8 d (zx (Ki rfl rfl rfl rfl rfl (by omega) (by assumption)) rfl ?_);refine zx (Kv rfl rfl rfl rfl (by decide)) rfl ?_) | (refine N9 d (z6 rfl ?_);refine z6 rfl ?_) | (refine Na d (Uq (Qo rfl rfl rfl rfl) rfl ?_)) | (refine Nb d (T_r ?_);refine F_r ?_) | (refine Nc d (Ql rfl ?_))) | (guard_hyp a:Nt 7; first | (refine N0 d (M1 (Qx rfl rfl rfl) rfl rfl ?_);refine Qy rfl rfl rfl rfl rfl rfl rfl rfl rfl (Qe ?_);refine Q0 ?_) | (refine N1 d (z9a rfl (by assumption) ?_);refine zz ?_;refine Ql rfl ?_) | (refine N2 d (T_r ?_);refine B_r ?_) | (refine N3 d (Qc ?_)) | (refine N4 d (Qd ?_);refine Qc (z1 rfl (zz (Qd (zy ?_))));refine z0 rfl ?_) | (refine N5 d (Qd ?_);refine Qc (M1 (Qq rfl rfl rfl rfl) rfl rfl (z1 rfl (Qe ?_)));refine Q0 ?_) | (refine N6 d (Qe ?_);refine Q0 (Ql rfl (Qh (Q0 (zy ?_))));refine z0 rfl ?_) | (refine N7 d (z2 rfl rfl rfl ?_);refine Q5 rfl rfl rfl rfl rfl rfl rfl rfl (zz (zy (z2 rfl rfl rfl ?_)));refine z3 rfl ?_) | (refine N8 d (Qe ?_);refine Q0 (Ql rfl (Qh (Q0 (Qd (zy (z2 rfl rfl rfl (z3 rfl (z2 rfl rfl rfl ?_))))))));refine z3 rfl ?_) | (refine N9 d (zx (Q2 rfl rfl rfl rfl (by omega) (by assumption) rfl) rfl ?_);refine zx (Vf rfl rfl rfl rfl) rfl ?_) | (refine Na d (Qd ?_);refine Qc (z1 rfl (zz (Xa ?_)));refine F_r ?_) | (refine Nb d (zx (Q8 rfl rfl rfl) rfl ?_);refine ze rfl (ze rfl (ze rfl (z1 rfl ?_)));refine z1 rfl ?_) | (refine Nc d (z0 rfl ?_);refine zx (Qt.grdF rfl rfl rfl .stop (fun hgrd=>Qa rfl rfl rfl)) rfl ?_)) | (guard_hyp a:Nt 8; first | (refine N0 d (Q1 ?_);refine Q0 (Qc (z7 rfl (by omega) (z0 rfl (Qe ?_))));refine Q0 ?_) | (refine N1 d (z2 rfl rfl rfl ?_);refine z3 rfl ?_;refine zx (Vb rfl rfl rfl) rfl ?_) | (refine N2 d (zx (Q3 rfl rfl rfl rfl rfl (by omega) (by omega)) rfl ?_)) | (refine N3 d (Qd ?_);refine zy (z1 rfl (zz ?_));refine Qk ?_) | (refine N4 d (Qh ?_);refine Q0 ?_;refine Qd ?_) | (refine N5 d (Qd ?_);refine Qc (z2 rfl rfl rfl (z3 rfl ?_));refine zx (Vb rfl rfl rfl) rfl ?_) | (refine N6 d (z1 rfl ?_);refine Qe (Q1 (Q0 (Qc (z0 rfl (z7 rfl (by omega) (z1 rfl (Qe ?_)))))));refine Q0 ?_) | (refine N7 d (z9c rfl (by assumption) ?_)) | (refine N8 d (z2 rfl rfl rfl ?_);refine z5 rfl (z3 rfl ?_);refine z5 rfl ?_) | (refine N9 d (Qe ?_);refine Q0 (zy ?_);refine z0 rfl ?_) | (refine Na d (Qd ?_);refine zy (z0 rfl (z0 rfl (zx (Vb rfl rfl rfl) rfl (zx (Vh rfl rfl rfl rfl) rfl (Qe ?_)))));refine Q0 ?_) | (refine Nb d (Qe ?_);refine Q0 (Qm rfl (zy (z1 rfl (zz (Xa (T_r ?_))))));refine F_r ?_) | (refine Nc d (M1 (Kl rfl rfl rfl rfl rfl rfl) rfl rfl ?_))) | (guard_hyp a:Nt 9; first | (refine N0 d (Qm rfl ?_)) | (refine N1 d (Uq (Qa rfl rfl rfl) rfl ?_);refine Uq (Qt.no rfl rfl rfl rfl) rfl (Uq (Qt.no rfl rfl rfl rfl) rfl (Uq (Qt.no rfl rfl rfl rfl) rfl ?_));refine Uq (Qt.no rfl rfl rfl rfl) rfl ?_) | (refine N2 d (Ya rfl rfl rfl rfl rfl rfl rfl rfl rfl (by assumption) (by assumption) (by assumption) rfl ?_)) | (refine N3 d (zx (Q8 rfl rfl rfl) rfl ?_);refine ze rfl ?_;refine ze rfl ?_) | (refine N4 d (z2 rfl rfl rfl ?_);refine Q5 rfl rfl rfl rfl rfl rfl rfl rfl ?_) | (refine N5 d (X6 rfl rfl rfl rfl rfl rfl rfl rfl rfl rfl rfl rfl rfl rfl (by omega) (by omega) ?_)) | (refine N6 d (zx (Kv rfl rfl rfl rfl (by decide)) rfl ?_)) | (refine N7 d (zx (Vl rfl rfl rfl rfl) rfl ?_)) | (refine N8 d (z0 rfl ?_);refine zx (Qt.grdT rfl rfl rfl .stop (fun hgrd=>Qf rfl rfl rfl rfl (by decide))) rfl ?_;refine zx (Qt.grdT rfl rfl rfl (.hit .stop) (fun hgrd=>Qg rfl rfl rfl rfl rfl)) rfl ?_) | (refine N9 d (z1 rfl ?_);refine zz (Qd (zy (z0 rfl (z9a rfl (by assumption) (zz (Ql rfl (Qh ?_)))))));refine Q0 ?_) | (refine Na d (Uq (Qt.no rfl rfl rfl rfl) rfl ?_);refine Uq (Qt.no rfl rfl rfl rfl) rfl (Uq (Qt.no rfl rfl rfl rfl) rfl ?_);refine Uq (Qt.no rfl rfl rfl rfl) rfl ?_) | (refine Nb d (Uq (Qz rfl rfl rfl) rfl ?_)) | (refine Nc d (Uq (Q3 rfl rfl rfl rfl rfl (by omega) (by omega)) rfl ?_))) | (guard_hyp a:Nt 10; first | (refine N0 d (Qe ?_);refine Q1 (Q0 (Qc (z0 rfl (z7 rfl (by omega) (z1 rfl (Qe ?_))))));refine Q0 ?_) | (refine N1 d (M1 (Qq rfl rfl rfl rfl) rfl rfl ?_)) | (refine N2 d (Uq (Q2 rfl rfl rfl rfl (by omega) (by assumption) rfl) rfl ?_)) | (refine N3 d (Q1 ?_);refine Q0 ?_) | (refine N4 d (z1 rfl ?_);refine z1 rfl ?_) | (refine N5 d (Qe ?_);refine Q0 (Ql rfl (Qh (Q0 ?_)));refine Qd ?_) | (refine N6 d (Uq (Qu rfl rfl rfl rfl rfl rfl) rfl ?_)) | (refine N7 d (zx (Ko rfl rfl rfl rfl rfl) rfl ?_)) | (refine N8 d (z0 rfl ?_);refine Qe ?_;refine Q0 ?_) | (refine N9 d (zx (Qt.no2 rfl rfl rfl) rfl ?_)) | (refine Na d (zx (Qt.grdF rfl rfl rfl (.hit (.hit (.hit .stop))) (fun hgrd=>Q4 rfl rfl rfl)) rfl ?_)) | (refine Nb d (z0 rfl ?_);refine z0 rfl ?_) | (refine Nc d (Uq (Q4 rfl rfl rfl) rfl ?_))) | (guard_hyp a:Nt 11; first | (refine N0 d (z1 rfl ?_);refine zz (Qd (zy (z0 rfl ?_)));refine z9a rfl (by assumption) ?_) | (refine N1 d (zx (Vj rfl rfl rfl rfl (by omega)) rfl ?_)) | (refine N2 d (Uq (Qf rfl rfl rfl rfl (by decide)) rfl ?_)) | (refine N3 d (zx (Q7 rfl rfl rfl rfl (by assumption) rfl) rfl ?_)) | (refine N4 d (Qd ?_);refine zy (z0 rfl (z0 rfl ?_));refine zx (Vb rfl rfl rfl) rfl ?_) | (refine N5 d (kc1 hd ?_)) | (refine N6 d (Qh ?_)) | (refine N7 d (zx (Vk rfl rfl rfl rfl) rfl ?_)) | (refine N8 d (Qe ?_);refine Q0 (Ql rfl ?_);refine Qh ?_) | (refine N9 d (Uq (Qt.yes rfl rfl rfl (Qf rfl rfl rfl rfl (by decide))) rfl ?_)) | (refine Na d (Uq (Kl rfl rfl rfl rfl rfl rfl) rfl ?_)) | (refine Nb d (z2 rfl rfl rfl ?_);refine z4 rfl rfl rfl ?_) | (refine Nc d (z1 rfl ?_);refine zz ?_;refine Xa ?_)) | (guard_hyp a:Nt 12; first | (refine N0 d (Uq (Qt.yes rfl rfl rfl (Q2 rfl rfl rfl rfl (by omega) (by assumption) rfl)) rfl ?_)) | (refine N1 d (z9a rfl (by assumption) ?_);refine zz ?_;refine Qm rfl ?_) | (refine N2 d (zx (Q2 rfl rfl rfl rfl (by omega) (by assumption) rfl) rfl ?_)) | (refine N3 d (Uq (Vg rfl rfl rfl rfl rfl) rfl ?_)) | (refine N4 d (zx (Vh rfl rfl rfl rfl) rfl ?_)) | (refine N5 d (T_r ?_);refine T_r ?_;refine B_r ?_) | (refine N6 d (Uq (Qb rfl rfl rfl) rfl ?_)) | (refine N7 d (Uq (Q7 rfl rfl rfl rfl (by assumption) rfl) rfl ?_)) | (refine N8 d (Uq (Qt.yes rfl rfl rfl (Vf rfl rfl rfl rfl)) rfl ?_)) | (refine N9 d (Qe ?_);refine Q0 ?_;refine Ql rfl ?_) | (refine Na d (Uq (Ku rfl rfl rfl rfl) rfl ?_)) | (refine Nb d (zx (Vn rfl rfl rfl rfl (by omega)) rfl ?_)) | (refine Nc d (zx (Kq rfl rfl rfl rfl (by assumption) (by omega)) rfl ?_))) | (guard_hyp a:Nt 13; first | (refine N0 d (z9d rfl (by assumption) ?_)) | (refine N1 d (Xh rfl rfl rfl rfl rfl rfl rfl rfl rfl (by assumption) rfl rfl ?_)) | (refine N2 d (zx (Qt.grdT rfl rfl rfl .stop (fun hgrd=>Qa rfl rfl rfl)) rfl ?_)) | (refine N3 d (zx (Kp rfl rfl rfl rfl (by omega)) rfl ?_)) | (refine N4 d (Qd ?_);refine Qc (z2 rfl rfl rfl (z3 rfl (z2 rfl rfl rfl ?_)));refine z3 rfl ?_) | (refine N5 d (Uq (Qt.yes rfl rfl rfl (Q4 rfl rfl rfl)) rfl ?_)) | (refine N6 d (zx (Kw rfl rfl rfl rfl (by decide)) rfl ?_)) | (refine N7 d (Uq (Qw rfl rfl rfl rfl (by assumption)) rfl ?_)) | (refine N8 d (Xa ?_)) | (refine N9 d (Uq (Qt.yes rfl rfl rfl (Q3 rfl rfl rfl rfl rfl (by omega) (by omega))) rfl ?_)) | (refine Na d (zx (Qt.grdF rfl rfl rfl (.hit (.hit .stop)) (fun hgrd=>Vb rfl rfl rfl)) rfl ?_)) | (refine Nb d (Q9 ?_);refine T_x ?_) | (refine Nc d (T_x ?_);refine Xl ?_)) | (guard_hyp a:Nt 14; first | (refine N0 d (z6 rfl ?_);refine z6 rfl (z6 rfl ?_);refine z6 rfl ?_) | (refine N1 d (X7 rfl rfl rfl rfl rfl rfl rfl rfl rfl rfl (by omega) (by omega) ?_)) | (refine N2 d (M1 (Km rfl rfl rfl) rfl rfl ?_)) | (refine N3 d (zx (Va rfl rfl rfl rfl (by assumption) (by assumption) (by assumption)) rfl ?_)) | (refine N4 d (zx (Qw (b:=true) rfl rfl rfl rfl (by decide)) rfl ?_)) | (refine N5 d (Uq (Qs rfl rfl rfl rfl (by omega)) rfl ?_)) | (refine N6 d (Uq (Qt.no rfl rfl rfl rfl) rfl ?_)) | (refine N7 d (zx (Ks rfl rfl rfl rfl (Uk (by omega))) rfl ?_)) | (refine N8 d (Q9 ?_)) | (refine N9 d (T_x ?_);refine Xl ?_;refine Q0 ?_) | (refine Na d (Uq (Kw rfl rfl rfl rfl (by decide)) rfl ?_)) | (refine Nb d (z2 rfl rfl rfl ?_);refine z5 rfl ?_) | (refine Nc d (Q1 ?_);refine Q0 (Qc ?_);refine z0 rfl ?_)) | (guard_hyp a:Nt 15; first | (refine N0 d (zx (Qt.grdF rfl rfl rfl (.hit .stop) (fun hgrd=>Qf rfl rfl rfl rfl (by decide))) rfl ?_)) | (refine N1 d (zx (Vr rfl rfl rfl rfl (by omega)) rfl ?_)) | (refine N2 d (z3 rfl ?_)) | (refine N3 d (B_r ?_)) | (refine N4 d (Uq (Qt.no rfl rfl rfl rfl) rfl ?_);refine Uq (Qt.no rfl rfl rfl rfl) rfl ?_) | (refine N5 d (Uq (Qt.yes rfl rfl rfl (Q7 rfl rfl rfl rfl (by assumption) rfl)) rfl ?_)) | (refine N6 d (Uq (Vf rfl rfl rfl rfl) rfl ?_)) | (refine N7 d (zx (Qt.grdF rfl rfl rfl (.hit (.hit (.hit (.hit .stop)))) (fun hgrd=>Vk rfl rfl rfl rfl)) rfl ?_)) | (refine N8 d (Uq (Qt.yes rfl rfl rfl (Qz rfl rfl rfl)) rfl ?_)) | (refine N9 d (zx (Q3 rfl rfl rfl rfl rfl (by omega) (by assumption)) rfl ?_)) | (refine Na d (zx (q_quo rfl rfl rfl rfl (by omega)) rfl ?_)) | (refine Nb d (Xg rfl rfl rfl rfl rfl rfl rfl rfl rfl rfl (by assumption) rfl rfl ?_)) | (refine Nc d (zx (Qt.grdF rfl rfl rfl (.hit (.hit .stop)) (fun hgrd=>Q4 rfl rfl rfl)) rfl ?_))) | (guard_hyp a:Nt 16; first | (refine N0 d (zx (Qt.grdF rfl rfl rfl (.hit (.hit .stop)) (fun hgrd=>Qa rfl rfl rfl)) rfl ?_)) | (refine N1 d (zx (Vf rfl rfl rfl rfl) rfl ?_)) | (refine N2 d (Uq (Qt.yes rfl rfl rfl (Qu rfl rfl rfl rfl rfl rfl)) rfl ?_)) | (refine N3 d (z0 rfl ?_);refine zx (Qt.grdF rfl rfl rfl .stop (fun hgrd=>Qf rfl rfl rfl rfl (by decide))) rfl ?_) | (refine N4 d (Uq (Qt.yes rfl rfl rfl (Vb rfl rfl rfl)) rfl ?_)) | (refine N5 d (Uq (Qt.yes rfl rfl rfl (Qr rfl rfl rfl rfl (by assumption))) rfl ?_)) | (refine N6 d (Xi u8_3 u8_4 u8_5 rfl ?_)) | (refine N7 d (B_r ?_);refine T_r (T_r ?_);refine B_r ?_) | (refine N8 d (zx (Kt rfl rfl rfl rfl) rfl ?_)) | (refine N9 d (zx (Qt.grdF rfl rfl rfl (.hit (.hit .stop)) (fun hgrd=>Qg rfl rfl rfl rfl rfl)) rfl ?_)) | (refine Na d (zx (Qt.grdF rfl rfl rfl (.hit (.hit (.hit .stop))) (fun hgrd=>Qa rfl rfl rfl)) rfl ?_)) | (refine Nb d (zx (Kk rfl rfl rfl rfl (by omega)) rfl ?_)) | (refine Nc d (F_n ?_))) | (guard_hyp a:Nt 17; first | (refine N0 d (Uq (Qx rfl rfl rfl) rfl ?_)) | (refine N1 d (zx (Kz rfl rfl rfl rfl) rfl ?_)) | (refine N2 d (Q9 ?_);refine T_x (T_x (Xl (Q0 (zy ?_))));refine z0 rfl ?_) | (refine N3 d (zx (Kx rfl rfl rfl rfl) rfl ?_)) | (refine N4 d (zx (q_sbat rfl rfl rfl rfl (by omega)) rfl ?_)) | (refine N5 d (Q1 ?_);refine Q0 (Qc (z0 rfl (z7 rfl (by omega) (z1 rfl (Qe ?_)))));refine Q0 ?_) | (refine N6 d (zx (Qt.grdT rfl rfl rfl (.hit (.hit .stop)) (fun hgrd=>Kt rfl rfl rfl rfl)) rfl ?_)) | (refine N7 d (Uq (Qt.yes rfl rfl rfl (Kw rfl rfl rfl rfl (by decide))) rfl ?_)) | (refine N8 d (Uq (Q8 rfl rfl rfl) rfl ?_)) | (refine N9 d (Uq (Vo rfl rfl rfl rfl (by assumption)) rfl ?_)) | (refine Na d (Uq (Qt.yes rfl rfl rfl (Kv rfl rfl rfl rfl (by decide))) rfl ?_)) | (refine Nb d (Uq (Kn rfl rfl rfl) rfl ?_)) | (refine Nc d (zx (Qw (b:=false) rfl rfl rfl rfl (by decide)) rfl ?_))) | (guard_hyp a:Nt 18; first | (refine N0 d (zx (Ky (b:=true) rfl rfl rfl rfl (by decide)) rfl ?_)) | (refine N1 d (T_r ?_)) | (refine N2 d (zx (q_bstr rfl rfl rfl rfl) rfl ?_)) | (refine N3 d (zx (q_leq rfl rfl rfl rfl) rfl ?_)) | (refine N4 d (zx (Ks rfl rfl rfl rfl (Ul (by omega))) rfl ?_)) | (refine N5 d (zx (Qt.grdF rfl rfl rfl (.hit .stop) (fun hgrd=>Kz rfl rfl rfl rfl)) rfl ?_)) | (refine N6 d (zx (Vo rfl rfl rfl rfl (by assumption)) rfl ?_)) | (refine N7 d (zx (Qt.grdF rfl rfl rfl (.hit (.hit (.hit .stop))) (fun hgrd=>Vb rfl rfl rfl)) rfl ?_)) | (refine N8 d (zx (Ve (b:=true) rfl rfl rfl rfl (by decide)) rfl ?_)) | (refine N9 d (zx (q_aidx rfl rfl rfl rfl (by omega)) rfl ?_)) | (refine Na d (Q5 rfl rfl rfl rfl rfl rfl rfl rfl ?_)) | (refine Nb d (Xi u8_6 u8_7 u8_8 rfl ?_)) | (refine Nc d (Uq (Qt.yes rfl rfl rfl (Qs rfl rfl rfl rfl (by omega))) rfl ?_))) | (guard_hyp a:Nt 19; first | (refine N0 d (kc0 cs ?_)) | (refine N1 d (zx (q_nile rfl rfl rfl) rfl ?_)) | (refine N2 d (Uq (Kv rfl rfl rfl rfl (by decide)) rfl ?_)) | (refine N3 d (kc1 cs ?_)) | (refine N4 d (M1 (Vi 0 rfl rfl rfl rfl (by omega) (by omega) (by omega) rfl (by decide)) rfl rfl ?_)) | (refine N5 d (zx (Qt.grdT rfl rfl rfl (.hit .stop) (fun hgrd=>Qa rfl rfl rfl)) rfl ?_)) | (refine N6 d (Uq (Qt.yes rfl rfl rfl (Xc rfl rfl rfl rfl (by omega))) rfl ?_)) | (refine N7 d (zx (q_cat rfl rfl rfl rfl (by omega)) rfl ?_)) | (refine N8 d (zx (Qt.grdF rfl rfl rfl (.hit .stop) (fun hgrd=>Qu rfl rfl rfl rfl rfl rfl)) rfl ?_)) | (refine N9 d (Qc ?_);refine z7 rfl (by omega) (z0 rfl (Qe ?_));refine Q0 ?_) | (refine Na d (Uq (Ko rfl rfl rfl rfl rfl) rfl ?_)) | (refine Nb d (M1 (Vi 1 rfl rfl rfl rfl (by omega) (by omega) (by omega) rfl (by decide)) rfl rfl ?_)) | (refine Nc d (Xi u8_0 u8_1 u8_2 rfl ?_))) | (guard_hyp a:Nt 20; first | (refine N0 d (zx (Qt.grdF rfl rfl rfl (.hit .stop) (fun hgrd=>Qw (b:=true) rfl rfl rfl rfl (by decide))) rfl ?_)) | (refine N1 d (zx (q_min rfl rfl rfl rfl) rfl ?_)) | (refine N2 d (zx (Qt.grdF rfl rfl rfl (.hit (.hit (.hit (.hit .stop)))) (fun hgrd=>Q4 rfl rfl rfl)) rfl ?_)) | (refine N3 d (Uq (Ve rfl rfl rfl rfl (by assumption)) rfl ?_)) | (refine N4 d (Uq (Qt.yes rfl rfl rfl (Qw rfl rfl rfl rfl (by assumption))) rfl ?_)) | (refine N5 d (Uq (Vp rfl rfl rfl rfl rfl (by omega)) rfl ?_)) | (refine N6 d (zx (Vp rfl rfl rfl rfl rfl (by omega)) rfl ?_)) | (refine N7 d (zx (Qt.grdT rfl rfl rfl (.hit (.hit .stop)) (fun hgrd=>Qf rfl rfl rfl rfl (by decide))) rfl ?_)) | (refine N8 d (zx (Qt.grdT rfl rfl rfl (.hit (.hit (.hit .stop))) (fun hgrd=>Qg rfl rfl rfl rfl rfl)) rfl ?_)) | (refine N9 d (zx (Qt.grdT rfl rfl rfl (.hit (.hit (.hit (.hit .stop)))) (fun hgrd=>Qa rfl rfl rfl)) rfl ?_)) | (refine Na d (zx (Qt.grdT rfl rfl rfl (.hit (.hit (.hit (.hit (.hit .stop))))) (fun hgrd=>Qs rfl rfl rfl rfl (by omega))) rfl ?_)) | (refine Nb d (zx (Qt.grdT rfl rfl rfl (.hit (.hit (.hit (.hit (.hit (.hit .stop)))))) (fun hgrd=>Vh rfl rfl rfl rfl)) rfl ?_)) | (refine Nc d (Uq (Kk rfl rfl rfl rfl (by omega)) rfl ?_))) | (guard_hyp a:Nt 21; first | (refine N0 d (B_xo rfl ?_)) | (refine N1 d (Uq (Qt.yes rfl rfl rfl (K0 rfl rfl rfl rfl (by assumption))) rfl ?_)) | (refine N2 d (zx (Qt.yes rfl rfl rfl (Qz rfl rfl rfl)) rfl ?_)) | (refine N3 d (zx (Qt.grdF rfl rfl rfl (.hit (.hit (.hit .stop))) (fun hgrd=>Q2 rfl rfl rfl rfl (by omega) (by assumption) rfl)) rfl ?_)) | (refine N4 d (zx (Vq rfl rfl rfl rfl (by omega)) rfl ?_)) | (refine N5 d (Xi u8_79 u8_80 u8_81 rfl ?_)) | (refine N6 d (M_tail rfl rfl rfl rfl rfl rfl rfl rfl (by omega) ?_)) | (refine N7 d (zx (Qt.grdF rfl rfl rfl (.hit (.hit (.hit .stop))) (fun hgrd=>Kz rfl rfl rfl rfl)) rfl ?_)) | (refine N8 d (zx (Qt.grdF rfl rfl rfl (.hit .stop) (fun hgrd=>Qa rfl rfl rfl)) rfl ?_)) | (refine N9 d (zx (Qv (b:=true) rfl rfl rfl rfl (by decide)) rfl ?_)) | (refine Na d (zx (Qt.grdF rfl rfl rfl (.hit (.hit .stop)) (fun hgrd=>Kt rfl rfl rfl rfl)) rfl ?_)) | (refine Nb d (zx (q_bneq rfl rfl rfl rfl) rfl ?_)) | (refine Nc d (X8 rfl rfl rfl rfl rfl rfl rfl (by omega) (by omega) ?_))) | (guard_hyp a:Nt 22; first | (refine N0 d (zx (q_band8K rfl rfl rfl rfl (by assumption) (by omega)) rfl ?_)) | (refine N1 d (zx (q_shlK rfl rfl rfl rfl (by assumption) (by omega) (by omega)) rfl ?_)) | (refine N2 d (zx (q_neg rfl rfl rfl (by omega)) rfl ?_)) | (refine N3 d (zx (Qr (b:=true) rfl rfl rfl rfl (by decide)) rfl ?_)) | (refine N4 d (zx (Q6 rfl rfl rfl rfl (by assumption) rfl rfl) rfl ?_)) | (refine N5 d (Uq (Qt.yes rfl rfl rfl (Qv rfl rfl rfl rfl (by assumption))) rfl ?_)) | (refine N6 d (Uq (q_appz0 rfl rfl rfl rfl rfl rfl) rfl ?_)) | (refine N7 d (zx (Qt.grdF rfl rfl rfl (.hit (.hit .stop)) (fun hgrd=>Qf rfl rfl rfl rfl (by decide))) rfl ?_)) | (refine N8 d (zx (Qt.grdF rfl rfl rfl (.hit (.hit (.hit (.hit .stop)))) (fun hgrd=>Vf rfl rfl rfl rfl)) rfl ?_)) | (refine N9 d (zx (Qt.grdF rfl rfl rfl (.hit (.hit (.hit (.hit (.hit (.hit (.hit .stop))))))) (fun hgrd=>Vk rfl rfl rfl rfl)) rfl ?_)) | (refine Na d (Uq (Vb rfl rfl rfl) rfl ?_)) | (refine Nb d (zx (Ki rfl rfl rfl rfl rfl (by omega) (by assumption)) rfl ?_)) | (refine Nc d (T_x ?_))) | (guard_hyp a:Nt 23; first | (refine N0 d (zx (Qt.grdF rfl rfl rfl (.hit (.hit (.hit (.hit (.hit .stop))))) (fun hgrd=>Vb rfl rfl rfl)) rfl ?_)) | (refine N1 d (zx (Qt.grdF rfl rfl rfl (.hit (.hit (.hit .stop))) (fun hgrd=>Qf rfl rfl rfl rfl (by decide))) rfl ?_)) | (refine N2 d (Qc ?_);refine z7 rfl (by omega) ?_) | (refine N3 d (Q0 ?_)) | (refine N4 d (zx (Vg rfl rfl rfl rfl rfl) rfl ?_)) | (refine N5 d (Uq (Qg rfl rfl rfl rfl rfl) rfl ?_)) | (refine N6 d (ze rfl ?_);refine ze rfl ?_)))); exact Cd.e c k):G:=h ⟨⟩ ⟨k⟩ ⟨⟩ ⟨⟩

inductive T where
 |v (x:Value)
 |sl (k:Nat) (es:List (List T))
 |un

inductive RO (w:World) (F:Nat→Prop):T→Value→Prop
 |v (x:Value) (h:x.oneCell'=true):RO w F (.v x) x
 |un (x:Value) (h:x.oneCell'=true):RO w F .un x
 |nil (A:Option Addr) (k c:Nat) (hm:c≤maxLen):RO w F (.sl k []) (.slice A 0 c)
 | sl (es:List (List T)) (b o k c:Nat) (val:Nat→Nat→Value) (hF:F b) (hc:es.length≤c) (hm:c≤maxLen) (hp:0<k) (hk:∀ e∈es,e.length=k)
   (hv:∀ i j,i<es.length→j<k→w.cell? ⟨b,o+i*k+j,none⟩=some (val i j))
   (ht:∀ (i j:Nat) (e:List T) (t:T),es[i]? = some e→e[j]? = some t→RO w F t (val i j)):RO w F (.sl k es) (.slice (some ⟨b,o,none⟩) es.length c)

theorem Zj {α:Type} {l:List α} {i:Nat} {x:α} (h:l[i]? = some x):i<l.length:=(Gqo.1 h).1
theorem Zk {α:Type} {l:List α} {i:Nat} {x:α} (h:l[i]? = some x):x∈l:=Gqn h

theorem RO.one {w:World} {F:Nat→Prop} {x:T} {v:Value} (h:RO w F x v):v.oneCell'=true:=by
 cases h with
 |v _ h=>exact h
 |un _ h=>exact h
 |nil=>rfl
 |sl=>rfl

theorem RO.move {w w':World} {F G:Nat→Prop} {x:T} {v:Value} (h:RO w F x v) (hf:∀ b,F b→b<w.heap.size→G b∧w'.heap[b]? = w.heap[b]?):RO w' G x v:=by
 induction h with
 |v x h=>exact .v x h
 |un x h=>exact .un x h
 |nil A k c hm=>exact .nil A k c hm
 | sl es b o k c val hF hc hm hp hk hv ht ih =>
  cases es with
  |nil=>exact .nil _ _ _ hm
  |cons e0 es =>
   have hb:b<w.heap.size:=World.block_lt_of_cell? w _ (hv 0 0 Aqd hp)
   obtain⟨hG,he⟩:=hf b hF hb
   exact .sl _ b o k c val hG hc hm hp hk (fun i j hi hj=>(World.cell?_of_block (w:=w) (a:=⟨b,o+i*k+j,none⟩) he).trans (hv i j hi hj)) fun i j e t h1 h2=>ih i j e t h1 h2

theorem RO.weak {w:World} {F G:Nat→Prop} {x:T} {v:Value} (h:RO w F x v) (hf:∀ b,F b→b<w.heap.size→G b):RO w G x v:=h.move fun b h1 h2=>⟨hf b h1 h2,rfl⟩

theorem RO.at_ {w:World} {F:Nat→Prop} {k:Nat} {es:List (List T)} {v:Value} (h:RO w F (.sl k es) v) {i:Nat} {e:List T} (hi:es[i]? = some e) :
  ∃ b o c,v = .slice (some ⟨b,o,none⟩) es.length c∧F b∧0<k∧e.length=k∧∀ (j:Nat) (t:T),e[j]? = some t→∃ u,w.cell? ⟨b,o+i*k+j,none⟩=some u∧RO w F t u:=by
 cases h with
 |nil=>simp at hi
 |sl _ b o _ c val hF hc hm hp hk hv ht =>
  have hl:=hk e (Zk hi)
  exact⟨b,o,c,J,hF,hp,hl,fun j t hj=>⟨_,hv i j (Zj hi) (by rw[←hl]; exact Zj hj),ht i j e t hi hj⟩⟩

theorem RO.form {w:World} {F:Nat→Prop} {k:Nat} {es:List (List T)} {v:Value} (h:RO w F (.sl k es) v):∃ A c,v = .slice A es.length c∧es.length≤c∧c≤maxLen:=by
 cases h with
 |nil A k c hm=>exact⟨A,c,rfl,Gxm _,hm⟩
 |sl _ b o _ c val hF hc hm=>exact⟨_,c,rfl,hc,hm⟩

theorem RO.plain {w:World} {F:Nat→Prop} {x v:Value} (h:RO w F (.v x) v):v=x∧x.oneCell'=true:=by
 cases h with
 |v _ h=>exact⟨rfl,h⟩

/-! ### Owned -/
inductive OW (w:World):T→Value→List Nat→Prop
 |v (x:Value) (h:x.oneCell'=true):OW w (.v x) x []
 |un (x:Value) (h:x.oneCell'=true):OW w .un x []
 |nil (k:Nat):OW w (.sl k []) (.slice none 0 0) []
 | sl (es:List (List T)) (b o k c:Nat) (tid:TypeId) (cur:Array Value) (fz:Nat×Nat) (val:Nat→Nat→Value) (fps:List (List (List Nat))) (hg:w.heap[b]? = some (.cells cur tid fz)) (hz:fz=(0,0)∨cur.size≤fz.1)
   (hc:es.length≤c) (hm:c≤maxLen) (hs:o+c*k≤cur.size) (hp:0<k) (hk:∀ e∈es,e.length=k) (hf:fps.length=es.length) (hfk:∀ f∈fps,f.length=k)
   (hv:∀ i j,i<es.length→j<k→cur[o+i*k+j]? = some (val i j))
   (ht:∀ (i j:Nat) (e:List T) (t:T) (fs:List (List Nat)) (f:List Nat),es[i]? = some e→e[j]? = some t→fps[i]? = some fs→fs[j]? = some f→OW w t (val i j) f) :
   OW w (.sl k es) (.slice (some ⟨b,o,none⟩) es.length c) (b::fps.flatten.flatten)

theorem mem_ff {α:Type} {fps:List (List (List α))} {i j:Nat} {fs:List (List α)} {f:List α} (h1:fps[i]? = some fs) (h2:fs[j]? = some f) {b:α} (hb:b∈f):b∈fps.flatten.flatten :=
 Gxn.2 ⟨f,Gxn.2 ⟨fs,Zk h1,Zk h2⟩,hb⟩

theorem OW.one {w:World} {x:T} {v:Value} {fp:List Nat} (h:OW w x v fp):v.oneCell'=true:=by
 cases h with
 |v _ h=>exact h
 |un _ h=>exact h
 |nil=>rfl
 |sl=>rfl

theorem OW.frame {w w':World} {x:T} {v:Value} {fp:List Nat} (h:OW w x v fp) (hf:∀ b∈fp,w'.heap[b]? = w.heap[b]?):OW w' x v fp:=by
 induction h with
 |v x h=>exact .v x h
 |un x h=>exact .un x h
 |nil k=>exact .nil k
 |sl es b o k c tid cur fz val fps hg hz hc hm hs hp hk hl hfk hv ht ih =>
  exact .sl es b o k c tid cur fz val fps ((hf b Aqd).trans hg) hz hc hm hs hp hk hl hfk hv fun i j e t fs f h1 h2 h3 h4=>ih i j e t fs f h1 h2 h3 h4 fun b' hb'=>hf b' (Gxc _ (mem_ff h3 h4 hb'))

theorem OW.lt {w:World} {x:T} {v:Value} {fp:List Nat} (h:OW w x v fp):∀ b∈fp,b<w.heap.size:=by
 induction h with
 |v x h=>simp
 |un x h=>simp
 |nil=>simp
 | sl es b o k c tid cur fz val fps hg hz hc hm hs hp hk hl hfk hv ht ih =>
  intro b' hb'
  rcases List.mem_cons.1 hb' with rfl | hb'
  ·exact (Array.getElem?_eq_some_iff.1 hg).1
  ·obtain⟨f,hf1,hf2⟩:=Gxn.1 hb'
   obtain⟨fs,hs1,hs2⟩:=Gxn.1 hf1
   obtain⟨i,hi⟩:=List.getElem?_of_mem hs1
   obtain⟨j,hj⟩:=List.getElem?_of_mem hs2
   have h1:i<es.length:=by rw[←hl]; exact Zj hi
   have h2:j<(es[i]).length:=by rw[hk _ (Gqe h1),←hfk _ hs1]; exact Zj hj
   exact ih i j _ _ fs f (Gqg h1) (Gqg h2) hi hj b' hf2

theorem OW.ro {w:World} {x:T} {v:Value} {fp:List Nat} (h:OW w x v fp):RO w (· ∈ fp) x v:=by
 induction h with
 |v x h=>exact .v x h
 |un x h=>exact .un x h
 |nil k=>exact .nil _ _ _ (Gxm _)
 | sl es b o k c tid cur fz val fps hg hz hc hm hs hp hk hl hfk hv ht ih =>
  refine .sl es b o k c val Aqd hc hm hp hk (fun i j hi hj=>?_) fun i j e t h1 h2=>?_
  ·rw[cell_of_row w b _ cur tid fz hg]
   simpa using hv i j hi hj
  ·have h3:i<fps.length:=by rw[hl]; exact Zj h1
   have h4:j<(fps[i]).length:=by rw[hfk _ (Gqe h3),←hk _ (Zk h1)]; exact Zj h2
   exact (ih i j e t _ _ h1 h2 (Gqg h3) (Gqg h4)).weak fun b' hb' _=>Gxc _ (mem_ff (Gqg h3) (Gqg h4) hb')
end
end Go.Proofs.YtalaljeokcpfnaaGreat
