/-
  PART.
-/
import Derived.Test.YthgbglbaemelhaaGreatM16LawSlices
set_option linter.unusedVariables false
set_option linter.unusedSimpArgs false
set_option maxRecDepth 100000
set_option maxHeartbeats 8000000
namespace Go.Proofs.YthgbglbaemelhaaGreat
open Value renaming slice->G,int->J,string->V
open IntKind renaming i64->C
open Option renaming none->D,some->Z,map_some->Tm
open Obj renaming cells->F
open Go renaming World->U,results->Rd,Calls->Rh,Addr->Ri,yielded->Su
open World renaming cell?->QL,alloc->RR
open List renaming nil_append->RC
open Bool renaming false->I,true->M
open Region renaming wanted->Rx,ready->RL,noSelect->Tn,Mode->Ts,free->Ui
open Tryz
open Go.RowKit
variable {A0 A1:X Ri}{W w:U}{c0 c1:Nat}{x:fv}
theorem sV:gZ prog 96 9 iH 16:=by
 refine⟨underlying96,?_,by decide⟩;have h:(prog.info? 9).map (fun i=>(i.zero,i.size,i.bytes))=Z (Z (V ⟨#[]⟩),1,16):=by kernel_rfl
 cases hi:prog.info? 9 with
 | none=>rw[hi] at h;simp at h
 | some i=>
  exact vh
def qL (x:fv)(w:U)(r:Ending)(w':U):Prop:=∃ A0 c0 A1 c1 S,r=.returned (.agg #[J C x.Kind,V x.Name,G A0 x.fM.length c0,G A1 x.Expr.length c1])/\Has zJ w' [J C x.Kind,V x.Name,G A0 x.fM.length c0,G A1 x.Expr.length c1] x S/\(∀ b∈S,w.heap.size<=b)/\ft w w'
theorem qL.mk {w':U} (h:fU zJ w w' [J C x.Kind,V x.Name,G A0 x.fM.length c0,G A1 x.Expr.length c1] x)(hg:ft w w'):qL x w (.returned (.agg #[J C x.Kind,V x.Name,G A0 x.fM.length c0,G A1 x.Expr.length c1])) w':=by
 obtain⟨S,h1,h2,h3⟩:=h;exact⟨_,_,_,_,S,rfl,⟨h1,h2⟩,h3,hg⟩
theorem CH {S0 S1:Q Nat} (h0:fD x.Kind)(h1:x.Name.size<=9223372036854775807)(h2:Has (iH.sl 9) W [G A0 x.fM.length c0] x.fM S0)(h3:Has (iZ.sl 160) W [G A1 x.Expr.length c1] x.Expr S1)(hd:∀ b∈S0,b∉S1) :
  Has zJ W [J C x.Kind,V x.Name,G A0 x.fM.length c0,G A1 x.Expr.length c1] x (S0++S1):=
 ⟨Lw h0 h1 h2.1 h3.1,Rs.2 ⟨h2.2,h3.2,fun a ha b hb he=>hd a ha (he ▸ hb)⟩⟩
theorem LP {xs:Q gB} {A:X Ri} {c:Nat} (hx:(iZ.sl 160).R w w.heap.size [G A xs.length c] xs)(hl:xs.length<=1099511627776) :
  Rh prog 215 #[G A xs.length c] w (ia xs w):=by
 go_enter func215,ntmps215;go_wp2_with(at_builtin;refine wv (L:=xs.length) rfl (.tmp 3) (.tmp 4) yo pP (S:=[w.heap.size]) (Has.emp iZ (QO _ _)) (Ty.up _ hx gF) rfl rfl rfl (Rk _).symm (by omega) (by omega) ?_;intro A7 c7 W7 S7 a3 a0 a1)
 have a2:∀ b∈S7,w.heap.size<=b:=fun b hb=>by
  rcases a1 b hb with h | h
  ·simp at h;omega
  ·simp at h;omega
 refine QU (v:=G A7 xs.length c7) (by simp[Rd,results215,go_sem]) rfl ?_;rw[RC] at a0;exact ia.mk a0 rfl rfl a2 (a3.fx (W0:=w) gF (fun b hb=>by simp at hb;omega))
theorem J3.xt {α β:Type} {T:Ty α} {QF:Ty β} {e f:TypeId} {Y W':U} {va vb vb':Value} {xa:Q α} {xb xb':Q β} {Sa Sb Sb':Q Nat} {go:Nat} {o:Obj} (h:J3 T QF e f Y W va vb xa xb Sa Sb go o)(hg:ft W W')(hH:Has (QF.sl f) W' [vb'] xb' Sb')(hS:∀ b∈Sb',W.heap.size<=b):J3 T QF e f Y W' va vb' xa xb' Sa Sb' go o:=by
 have hl:=(blt h.ho)
 refine⟨h.ha.fx hg,hH,fun b hb hm=>?_,h.la,fun b hb=>?_,h.hg.trans hg,zj h.ho hg,h.ng,fun hm=>?_⟩
 ·have:=h.ha.lt b hb;have:=hS b hm;omega
 ·have:=h.hg.size;have:=hS b hb;omega
 ·have:=hS go hm;omega
theorem zqf (p0:fD x.Kind)(p1:x.Name.size<=9223372036854775807)(h2:(iH.sl 9).R w w.heap.size [G A0 x.fM.length c0] x.fM)(h3:(iZ.sl 160).R w w.heap.size [G A1 x.Expr.length c1] x.Expr)(hl2:x.fM.length<=1099511627776)(hl3:x.Expr.length<=1099511627776) :
  Rh prog 208 #[.agg #[J C x.Kind,V x.Name,G A0 x.fM.length c0,G A1 x.Expr.length c1]] w (qL x w):=by
 go_enter func208,ntmps208;go_wp2_with(fail);have a4:ft w ((w.alloc (F #[J C x.Kind,V x.Name,G A0 x.fM.length c0,G A1 x.Expr.length c1] 99)).alloc (F #[J C 0,V ⟨#[]⟩,G D 0 0,G D 0 0] 99)):=gG;have eb:((w.alloc (F #[J C x.Kind,V x.Name,G A0 x.fM.length c0,G A1 x.Expr.length c1] 99)).alloc (F #[J C 0,V ⟨#[]⟩,G D 0 0,G D 0 0] 99)).heap[w.heap.size]?=Z (F #[J C x.Kind,V x.Name,G A0 x.fM.length c0,G A1 x.Expr.length c1] 99 (0,0)):=zj (QO w _) gF;have er:((w.alloc (F #[J C x.Kind,V x.Name,G A0 x.fM.length c0,G A1 x.Expr.length c1] 99)).alloc (F #[J C 0,V ⟨#[]⟩,G D 0 0,G D 0 0] 99)).heap[w.heap.size+1]?=Z (F #[J C 0,V ⟨#[]⟩,G D 0 0,G D 0 0] 99 (0,0)):=by have h:=QO (w.alloc (F #[J C x.Kind,V x.Name,G A0 x.fM.length c0,G A1 x.Expr.length c1] 99)) (F #[J C 0,V ⟨#[]⟩,G D 0 0,G D 0 0] 99);rw[Rf] at h;exact h
 have d2:=Ty.up _ h2 a4;have d3:=Ty.up _ h3 a4;obtain⟨g,hg⟩:∃ g,w.heap.size=g:=⟨_,rfl⟩
 rw[hg] at eb er |-;generalize ((w.alloc _).alloc _)=Y at a4 eb er d2 d3 |-;obtain⟨y0,y1,y2,y3,_,yl⟩:=iJ eb;have zl:=(iJ er).2.2.2.2.2;clear h2 h3;refine jT (fun w'=>QL w' ⟨g,0,D⟩=Z (J C x.Kind)/\QL w' ⟨g,1,D⟩=Z (V x.Name)/\QL w' ⟨g,2,D⟩=Z (G A0 x.fM.length c0)/\QL w' ⟨g,3,D⟩=Z (G A1 x.Expr.length c1)) 12 (by kernel_rfl) ⟨zc y0,zc y1,zc y2,zc y3⟩ (fun hH=>?_);have HJ:=J3.start (T:=iH) (QF:=iZ) (e:=9) (f:=160) er;have HJ:=HJ.fx ((ft.refl _).drew);generalize hYd:Y.drew=Wx at HJ hH |-;clear hYd;refine .tq 0 [12] hH ?_;refine .tq 1 [12] hH ?_;refine .tq 2 [12] hH ?_;refine .tq 3 [12] hH ?_;refine .tq 5 [12] hH ?_;refine .tq 6 [12] hH ?_;refine .tq 8 [12] hH ?_;refine .tq 9 [12] hH ?_;refine fA.gQ (i:=4) (by kernel_rfl) rfl (fun K hK=>?_)
 ·go_simp
  have HJ:=HJ.kY;refine hK.out _ _ ⟨HJ.cell y0,HJ.cell y1,HJ.cell y2,HJ.cell y3⟩ ?_;clear hK;generalize RR _ (F #[] 9)=Wx at HJ |-
  try simp only[lay]
  refine fA.gQ (i:=7) (by kernel_rfl) rfl (fun K hK=>?_)
  ·refine zK (L:=x.fM.length) rfl (.tmp 7) (.tmp 9) sV lq HJ.ha (Ty.up _ d2 HJ.hg) rfl rfl rfl (Rk _).symm (by omega) (by omega) ?_
   intro B1 d1 W1 S1 a8 hH hS;rw[RC] at hH;have HJ:=HJ.oC a8 hH hS;refine hK.out _ _ ⟨HJ.cell y0,HJ.cell y1,HJ.cell y2,HJ.cell y3⟩ ?_;clear hK a8 hH hS
   try simp only[lay]
   refine fA.gQ (i:=10) (by kernel_rfl) rfl (fun K hK=>?_)
   ·go_simp
    go_at_call 215
    with_reducible refine(LP (Ty.up _ d3 HJ.hg) hl3).mono ?_
    rintro e v ⟨A8,c8,S8,rfl,a5,a6,a7⟩;have HJ:=HJ.xt a7 a5 a6;refine hK.out _ _ ⟨HJ.cell y0,HJ.cell y1,HJ.cell y2,HJ.cell y3⟩ ?_;clear hK a5 a6 a7
    try simp only[lay]
    refine .tq 11 [12] ⟨HJ.cell y0,HJ.cell y1,HJ.cell y2,HJ.cell y3⟩ ?_;obtain⟨a0,a1,a2,a3,af,al⟩:=iJ HJ.ho;refine fA.last (by kernel_rfl) rfl (by kernel_rfl) (fun K hK=>?_);go_simp;refine hK.out _ _ ?_;clear hK
    try simp only[lay]
    have h2:=wb HJ.ho (J C x.Kind) (V x.Name) (G B1 x.fM.length d1) (G A8 x.Expr.length c8);obtain⟨r0,r1,r2,r3,_,_⟩:=iJ h2.1;have hA:=HJ.ha.fJ h2.2 (fun b hb hm=>HJ.ng (by simp at hm;exact hm ▸ hb));have hB:=HJ.hb.fJ h2.2 (fun b hb hm=>HJ.rP (by simp at hm;exact hm ▸ hb));go_wp2_with(fail);exact QU (v:=.agg #[J C x.Kind,V x.Name,G B1 x.fM.length d1,G A8 x.Expr.length c8]) (by simp[Rd,results208,go_sem,r0,r1,r2,r3]) rfl ⟨_,_,_,_,_,rfl,CH p0 p1 hA hB HJ.nJ,fun b hb=>(Q7.1 hb).elim (fun h=>by have:=HJ.la b h;have:=a4.size;omega) (fun h=>by have:=HJ.lb b h;have:=a4.size;omega),h2.2.fx (a4.trans HJ.hg) (fun b hb=>by simp at hb;omega)⟩
end Go.Proofs.YthgbglbaemelhaaGreat
