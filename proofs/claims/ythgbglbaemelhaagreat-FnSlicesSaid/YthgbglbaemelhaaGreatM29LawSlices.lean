/-
  PART.
-/
import Derived.Test.YthgbglbaemelhaaGreatM10LawSlices
set_option linter.unusedVariables false
set_option linter.unusedSimpArgs false
set_option maxRecDepth 100000
set_option maxHeartbeats 8000000
namespace Go.Proofs.YthgbglbaemelhaaGreat
open Value renaming slice->G,int->J,bool->H
open IntKind renaming i64->C,wrap->QP
open Option renaming none->D,some->Z
open Obj renaming cells->F
open Bool renaming false->I,true->M
open Go renaming World->U,results->Rd,Calls->Rh,Addr->Ri,yielded->Su
open World renaming cell?->QL,frozen?->Rb,alloc->RR
open List renaming length_cons->Rc,length_nil->Ru,nil_append->RC
open Region renaming wanted->Rx,ready->RL,noSelect->Tn,Mode->Ts,free->Ui
open Tryz
open Go.RowKit
variable {Ac Ad Ai Al As Av:X Ri}{L Si Ss:Q Nat}{P:jj}{W W':U}{cc cd ci cl cs cv nl nv:Nat}{chain:Q Int}{i line:Int}{m:fS}{rows:Q (Q Value)}{s:fG}{st:Bool}
theorem ig.fJ {P:jj}{m:fS}{rows:Q (Q Value)}{W W':U}{Ai As:X Ri}{ci cs:Nat}{Si Ss S:Q Nat}(h:ig P m rows W Ai ci Si As cs Ss)(ho:fw S W W')(hS:∀ b∈S,b≠P.g/\b∉Si/\b∉Ss/\P.Y.heap.size<=b):ig P m rows W' Ai ci Si As cs Ss:=
 ⟨(ho.block P.g (blt h.box) (fun hm=>(hS _ hm).1 rfl)).trans h.box,h.hJ.fJ ho (fun b hb hm=>(hS b hm).2.1 hb),h.nh.fJ ho (fun b hb hm=>(hS b hm).2.2.1 hb),h.jS,h.gn,ho.fx h.fx (fun b hb=>(hS b hb).2.2.2),h.low⟩
theorem ig.grow (h:ig P m rows W Ai ci Si As cs Ss)(hg:ft W W'):ig P m rows W' Ai ci Si As cs Ss:=
 ⟨zj h.box hg,h.hJ.fx hg,h.nh.fx hg,h.jS,h.gn,h.fx.trans hg,h.low⟩
theorem ig.num {m':fS} (h:ig P m rows W Ai ci Si As cs Ss){i:Nat}{v:Value}(hi:m'.items=m.items)
  (hrow:∀ a b c d e f g x y,(#[a,b,c,d,e,f,g,J C m.gL,J C P.E.args,J C m.depth,x,y,H m.start]:Array Value).setIfInBounds i v=#[a,b,c,d,e,f,g,J C m'.gL,J C P.E.args,J C m'.depth,x,y,H m'.start]) :
  ig P m' rows (W.setCell ⟨P.g,i,D⟩ v) Ai ci Si As cs Ss/\fw [P.g] W (W.setCell ⟨P.g,i,D⟩ v):=by
 have a0:fw [P.g] W (W.setCell ⟨P.g,i,D⟩ v):=(fw.refl _ _).setCell (p:=⟨P.g,i,D⟩) (by simp) _;refine⟨⟨jb (i:=i) (v:=v) h.box (by rw[hrow,hi]),?_,?_,h.jS,h.gn,a0.fx h.fx (fun b hb=>by simp at hb;exact hb ▸ h.low.1),h.low⟩,a0⟩
 ·rw[hi]
  exact h.hJ.fJ a0 (fun x hx hm=>by simp at hm;exact h.gn.1 (hm ▸ hx))
 ·exact h.nh.fJ a0 (fun x hx hm=>by simp at hm;exact h.gn.2 (hm ▸ hx))
theorem ig.items {A':X Ri} {c':Nat} {Sy S':Q Nat} {its':Q fP} (h:ig P m rows W Ai ci Si As cs Ss)
  (hy:∀ b∈Sy,b≠P.g/\b∉Ss/\P.Y.heap.size<=b) (hon:fw Si W W') (hH:Has (oT.sl 227) W' [G A' its'.length c'] its' S') (hS:∀ b∈S',b∈Si∨b∈Sy∨W.heap.size<=b) :
  ig P (m.iK its') rows (W'.setCell ⟨P.g,10,D⟩ (G A' its'.length c')) A' c' S' As cs Ss/\fw (P.g::(Si++Ss)) W (W'.setCell ⟨P.g,10,D⟩ (G A' its'.length c')):=by
 have a4:=(blt h.box)
 have a3:=(hon.block P.g a4 h.gn.1).trans h.box;have a0:fw [P.g] W' (W'.setCell ⟨P.g,10,D⟩ (G A' its'.length c')):=(fw.refl _ _).setCell (p:=⟨P.g,10,D⟩) (by simp) _;have a6:=h.fx.size
 have a1:P.g∉S':=fun hm=>by
  rcases hS _ hm with h1 | h1 | h1
  ·exact h.gn.1 h1
  ·exact(hy _ h1).1 rfl
  ·omega
 have a2:∀ b∈S',b∉Ss:=fun b hb hm=>by
  rcases hS b hb with h1 | h1 | h1
  ·exact h.jS b h1 hm
  ·exact(hy b h1).2.1 hm
  ·have:=h.nh.lt b hm;omega
 have a5:∀ b∈S',P.Y.heap.size<=b:=fun b hb=>by
  rcases hS b hb with h1 | h1 | h1
  ·exact h.low.2.1 b h1
  ·exact(hy b h1).2.2
  ·omega
 refine⟨⟨jb (i:=10) (v:=G A' its'.length c') a3 rfl,hH.fJ a0 (fun b hb hm=>by simp at hm;exact a1 (hm ▸ hb)),(h.nh.fJ hon (fun b hb hm=>h.jS b hm hb)).fJ a0 (fun b hb hm=>by simp at hm;exact h.gn.2 (hm ▸ hb)),a2,⟨a1,h.gn.2⟩,a0.fx (hon.fx h.fx h.low.2.1) (fun b hb=>by simp at hb;exact hb ▸ h.low.1),⟨h.low.1,a5,h.low.2.2⟩⟩,?_⟩;exact(hon.mono (fun b hb=>by simp[hb])).trans (a0.mono (fun b hb=>by simp at hb;simp[hb]))
theorem tT {g:Prop} (f:g:=by
  try simp only[lay]
  refine fA.gQ (i:=10) (by kernel_rfl) rfl (fun K hK=>?_)
  ·refine zK (L:=chain.length) rfl (.tmp 19) (.tmp 20) mg zD HJ.ha (Ty.up _ hc HJ.hg) rfl rfl rfl (Rk _).symm (by omega) (by omega) ?_
   intro B1 d1 W1 S1 hon hH hS
   rw[RC] at hH
   have HJ:=HJ.oC hon hH hS
   refine hK.out _ _ (HJ.cell z12) ?_
   clear hK
   try simp only[lay]
   refine .tq 11 [13] (HJ.cell z12) ?_
   obtain⟨o0,o1,o2,o3,o4,o5,o6,of,ol⟩:=zS HJ.ho
   refine fA.last (by kernel_rfl) rfl (by kernel_rfl) (fun K hK=>?_)
   go_simp
   refine hK.out _ _ ?_
   clear hK
   try simp only[lay]
   have h2:=mK HJ.ho (J C code) (J C arg) (J C line) (H m.start) (G B1 chain.length d1) (J C 0) (H I)
   have HJ:=HJ.store h2.2 h2.1 hgo
   go_wp2_with(fail)
   go_meet
   exact⟨_,B1,d1,S1,rfl,HJ,hgo⟩):g:=f
theorem zeQ {code arg:Int} (h:jf P m rows W L)
  (hc:(zr.sl 3).R W W.heap.size [G Ac chain.length cc] chain) (hcl:chain.length<=1000) (hln:m.items.length<=100000) (b0:fD code) (b1:fD arg) (b2:fD line) (b3:fD m.depth) :
  Rh prog 203 #[.pointer (Z ⟨P.g,0,D⟩),J C code,J C arg,J C line,G Ac chain.length cc] W fun r W'=>r=.returned (.tuple #[])/\gC P (zB P.E m code arg line chain) rows W L W':=by
 obtain⟨Ai,ci,Si,As,cs,Ss,hB,rfl⟩:=h;obtain⟨z0,z1,z2,z3,z4,z5,z6,z7,z8,z9,ad,ai,z12,zf,zl⟩:=nr hB.box;go_enter func203,ntmps203;go_upto_region 0 with(fail);go_cut [10] from 10 to 22 (fun v wx=>∃(g3:Nat) (B1:X Ri) (d1:Nat) (S1:Q Nat),v=.pointer (Z ⟨g3,0,D⟩)/\J3 zr zr 3 3 W wx (G B1 chain.length d1) (G D 0 0) chain [] S1 [] g3 (F #[J C code,J C arg,J C line,H m.start,G B1 chain.length d1,J C 0,H I] 227 (0,0))/\W.heap.size<=g3)
 case first=>
  refine jT (fun w'=>QL w' ⟨P.g,12,D⟩=Z (H m.start)) 13 (by kernel_rfl) (zc z12) (fun hH=>?_);have HJ:=J3.start (T:=zr) (QF:=zr) (e:=3) (f:=3) hB.box;have HJ:=HJ.fx ((ft.refl _).drew);generalize hYd:W.drew=Wx at HJ hH |-;clear hYd;refine .tq 0 [13] hH ?_;refine .tq 1 [13] hH ?_;refine .tq 2 [13] hH ?_;refine .tq 3 [13] hH ?_;refine .tq 4 [13] hH ?_;refine .tq 5 [13] hH ?_;refine .tq 6 [13] hH ?_;refine .tq 7 [13] hH ?_;refine .tq 9 [13] hH ?_;refine fA.pd (i:=8) (j:=12) (by kernel_rfl) rfl rfl (fun K hK=>?_) (fun K hK=>?_)
  ·go_simp
   have HJ:=HJ.kY;refine hK.out _ _ (HJ.cell z12) ?_;clear hK;generalize RR _ (F #[] 3)=Wx at HJ |-
   try simp only[lay]
   refine fA.pd (i:=10) (j:=12) (by kernel_rfl) rfl rfl (fun K hK=>?_) (fun K hK=>?_)
   ·refine zK (L:=chain.length) rfl (.tmp 19) (.tmp 20) mg zD HJ.ha (Ty.up _ hc HJ.hg) rfl rfl rfl (Rk _).symm (by omega) (by omega) ?_
    intro B1 d1 W1 S1 hon hH hS;rw[RC] at hH;have HJ:=HJ.oC hon hH hS;refine hK.out _ _ (HJ.cell z12) ?_;clear hK
    try simp only[lay]
    refine .tq 11 [13] (HJ.cell z12) ?_;refine fA.gQ (i:=12) (by kernel_rfl) rfl (fun K hK=>?_)
    ·go_simp
     have hgo:=HJ.hg.size;have HJ:=HJ.kp (cs:=#[J C 0,J C 0,J C 0,H I,G D 0 0,J C 0,H I]) (t:=227);refine hK.out _ _ (HJ.cell z12) ?_;clear hK;generalize RR _ (F #[J C 0,J C 0,J C 0,H I,G D 0 0,J C 0,H I] 227)=Wx at HJ |-
     try simp only[lay]
     obtain⟨o0,o1,o2,o3,o4,o5,o6,of,ol⟩:=zS HJ.ho;refine fA.last (by kernel_rfl) rfl (by kernel_rfl) (fun K hK=>?_);go_simp;refine hK.out _ _ ?_;clear hK
     try simp only[lay]
     have h2:=mK HJ.ho (J C code) (J C arg) (J C line) (H m.start) (G B1 chain.length d1) (J C 0) (H I);have HJ:=HJ.store h2.2 h2.1 hgo;go_wp2_with(fail);go_meet;exact⟨_,B1,d1,S1,rfl,HJ,hgo⟩
   ·go_simp
    have hgo:=HJ.hg.size;have HJ:=HJ.kp (cs:=#[J C 0,J C 0,J C 0,H I,G D 0 0,J C 0,H I]) (t:=227);refine hK.out _ _ (HJ.cell z12) ?_;clear hK;generalize RR _ (F #[J C 0,J C 0,J C 0,H I,G D 0 0,J C 0,H I] 227)=Wx at HJ |-;exact tT
  ·go_simp
   have hgo:=HJ.hg.size;have HJ:=HJ.kp (cs:=#[J C 0,J C 0,J C 0,H I,G D 0 0,J C 0,H I]) (t:=227);refine hK.out _ _ (HJ.cell z12) ?_;clear hK;generalize RR _ (F #[J C 0,J C 0,J C 0,H I,G D 0 0,J C 0,H I] 227)=Wx at HJ |-
   try simp only[lay]
   refine fA.gQ (i:=8) (by kernel_rfl) rfl (fun K hK=>?_)
   ·go_simp
    have HJ:=HJ.kY;refine hK.out _ _ (HJ.cell z12) ?_;clear hK;generalize RR _ (F #[] 3)=Wx at HJ |-;exact tT
 case rest=>
  obtain⟨g3,B1,d1,S1,rfl,HJ,ao⟩:=hcut;have aj:=hB.grow HJ.hg;have ak:=hB;have az:=(blt hB.box)
  have aA:P.g≠g3:=by omega
  have ac:g3≠P.g:=by omega
  have ab:∀ b∈[g3],b≠P.g/\b∉Si/\b∉Ss/\P.Y.heap.size<=b:=fun b hb=>by
   simp at hb;subst hb;exact⟨ac,fun hm=>by have:=hB.hJ.lt _ hm;omega,fun hm=>by have:=hB.nh.lt _ hm;omega,by have:=hB.low.1;omega⟩
  obtain⟨o0,o1,o2,o3,o4,o5,o6,of,ol⟩:=zS HJ.ho;clear z0 z1 z2 z3 z4 z5 z6 z7 z8 z9 ad ai z12 zf zl;obtain⟨z0,z1,z2,z3,z4,z5,z6,z7,z8,z9,ad,ai,z12,zf,zl⟩:=nr aj.box;clear hB
  obtain⟨x,hx,aw⟩:∃ x,tF P.E m code arg line chain=x/\((P.E.gV=M/\0<m.items.length/\x=⟨⟨code,arg⟩,line,m.start,chain,0,M⟩)∨(P.E.gV=M/\¬ 0<m.items.length/\x=⟨⟨code,arg⟩,line,m.start,chain,m.depth,I⟩)∨(P.E.gV=I/\True/\x=⟨⟨code,arg⟩,line,m.start,chain,m.depth,I⟩)):=by
   refine⟨_,rfl,?_⟩;by_cases a6:P.E.gV=M
   ·by_cases h0:0<m.items.length
    ·exact .inl ⟨a6,h0,by unfold tF;simp[a6,h0]⟩
    ·exact .inr (.inl ⟨a6,h0,by unfold tF;simp[h0]⟩)
   ·have ag:P.E.gV=I:=by simpa using a6
    exact .inr (.inr ⟨ag,trivial,by unfold tF;simp[ag]⟩)
  rcases aw with⟨a6,h0,a7⟩ | ⟨a6,h0,a7⟩ | ⟨a6,h0,a7⟩
  all_goals rw[a6] at z5
  case' inl=>
   have ap:(m.items.length:Int) > 0:=by omega
   have aq:0<(m.items.length:Int):=by omega
   have e1:=jb (i:=6) (v:=H M) HJ.ho rfl;have a4:fw [g3] wc (wc.setCell ⟨g3,6,D⟩ (H M)):=(fw.refl _ _).setCell (p:=⟨g3,6,D⟩) (by simp) _;have ae:=aj.fJ a4 ab;obtain⟨a3,a5⟩:=ae.num (i:=12) (v:=H I) (m':=⟨m.items,m.depth,m.gL,I⟩) rfl (fun _ _ _ _ _ _ _ _ _=>rfl);have e2:=(a5.block g3 (blt e1) (by simpa using ac)).trans e1;have a8:fw (P.g::(Si++Ss)) W ((wc.setCell ⟨g3,6,D⟩ (H M)).setCell ⟨P.g,12,D⟩ (H I)):=((HJ.hg.only _).then (a4.mono (S':=[g3]) (fun _ h=>h)) (fun b hb=>by simp at hb;subst hb;exact .inr ao)).then (a5.mono (S':=[P.g]) (fun _ h=>h)) (fun b hb=>by simp at hb;subst hb;exact .inl (by simp));have a9:=(HJ.ha.fJ a4 (fun b hb hm=>by simp at hm;exact HJ.ng (hm ▸ hb))).fJ a5 (fun b hb hm=>by simp at hm;subst hm;have:=HJ.la _ hb;omega)
   have aa:Has oT ((wc.setCell ⟨g3,6,D⟩ (H M)).setCell ⟨P.g,12,D⟩ (H I)) [J C x.Op.Code,J C x.Op.Arg,J C x.fH,H x.Start,G B1 x.fB.length d1,J C x.fE,H x.fF] x S1:=by
    subst a7;exact⟨CE B1 d1 S1 b0 b1 b2 a9.1 ((⟨by decide,by decide⟩:fD 0)),a9.2⟩
   have e5:((wc.setCell ⟨g3,6,D⟩ (H M)).setCell ⟨P.g,12,D⟩ (H I)).heap[g3]?=Z (F #[J C x.Op.Code,J C x.Op.Arg,J C x.fH,H x.Start,G B1 x.fB.length d1,J C x.fE,H x.fF] 227 (0,0)):=by subst a7;exact e2
   clear a7 e1 a4 ae a5 e2 a9;go_upto_region 5 with(fail);generalize ((wc.setCell _ _).setCell _ _)=W5 at a3 a8 aa e5 |-
  case' inr.inl=>
   have ap:¬ ((m.items.length:Int) > 0):=by omega
   have aq:¬ (0<(m.items.length:Int)):=by omega
  case' inr.inl | inr.inr=>
   have e1:=jb (i:=5) (v:=J C m.depth) HJ.ho rfl;have a4:fw [g3] wc (wc.setCell ⟨g3,5,D⟩ (J C m.depth)):=(fw.refl _ _).setCell (p:=⟨g3,5,D⟩) (by simp) _;have ae:=aj.fJ a4 ab;obtain⟨a3,a5⟩:=ae.num (i:=12) (v:=H I) (m':=⟨m.items,m.depth,m.gL,I⟩) rfl (fun _ _ _ _ _ _ _ _ _=>rfl);have e2:=(a5.block g3 (blt e1) (by simpa using ac)).trans e1;have a8:fw (P.g::(Si++Ss)) W ((wc.setCell ⟨g3,5,D⟩ (J C m.depth)).setCell ⟨P.g,12,D⟩ (H I)):=((HJ.hg.only _).then (a4.mono (S':=[g3]) (fun _ h=>h)) (fun b hb=>by simp at hb;subst hb;exact .inr ao)).then (a5.mono (S':=[P.g]) (fun _ h=>h)) (fun b hb=>by simp at hb;subst hb;exact .inl (by simp));have a9:=(HJ.ha.fJ a4 (fun b hb hm=>by simp at hm;exact HJ.ng (hm ▸ hb))).fJ a5 (fun b hb hm=>by simp at hm;subst hm;have:=HJ.la _ hb;omega)
   have aa:Has oT ((wc.setCell ⟨g3,5,D⟩ (J C m.depth)).setCell ⟨P.g,12,D⟩ (H I)) [J C x.Op.Code,J C x.Op.Arg,J C x.fH,H x.Start,G B1 x.fB.length d1,J C x.fE,H x.fF] x S1:=by
    subst a7;exact⟨CE B1 d1 S1 b0 b1 b2 a9.1 (b3),a9.2⟩
   have e5:((wc.setCell ⟨g3,5,D⟩ (J C m.depth)).setCell ⟨P.g,12,D⟩ (H I)).heap[g3]?=Z (F #[J C x.Op.Code,J C x.Op.Arg,J C x.fH,H x.Start,G B1 x.fB.length d1,J C x.fE,H x.fF] 227 (0,0)):=by subst a7;exact e2
   clear a7 e1 a4 ae a5 e2 a9;go_upto_region 5 with(fail);generalize ((wc.setCell _ _).setCell _ _)=W5 at a3 a8 aa e5 |-
  all_goals
   have HX:=fh hx
   clear hx
   have ax:∀ b∈S1,W.heap.size<=b:=HJ.la
   have al:∀ b∈Si,b∉S1:=fun b hb hm=>by have h1:=HJ.la b hm;have h2:=ak.hJ.lt b hb;omega
   have hy:∀ b∈S1,b≠P.g/\b∉Ss/\P.Y.heap.size<=b:=fun b hb=>⟨fun h=>by have h1:=HJ.la b hb;omega,fun hm=>by have h1:=HJ.la b hb;have h2:=ak.nh.lt b hm;omega,by have h1:=HJ.la b hb;have h2:=ak.fx.size;omega⟩
   have a1:g3∉Si:=fun hm=>(ab g3 (by simp)).2.1 hm
   clear HJ aj
   clear z0 z1 z2 z3 z4 z5 z6 z7 z8 z9 ad ai z12 zf zl o0 o1 o2 o3 o4 o5 o6 of ol
   obtain⟨z0,z1,z2,z3,z4,z5,z6,z7,z8,z9,ad,ai,z12,zf,zl⟩:=nr a3.box
   obtain⟨q0,q1,q2,q3,q4,q5,q6,qf,ql⟩:=zS e5
   have ah:QL W5 ⟨P.g,10,D⟩=Z (G Ai m.items.length ci):=ad
   clear z0 z1 z2 z3 z4 z5 z6 z7 z8 z9 ad ai z12 zf zl qf ql
   refine jT (fun w'=>QL w' ⟨P.g,10,D⟩=Z (G Ai m.items.length ci)/\QL w' ⟨g3,0,D⟩=Z (J C x.Op.Code)/\QL w' ⟨g3,1,D⟩=Z (J C x.Op.Arg)/\QL w' ⟨g3,2,D⟩=Z (J C x.fH)/\QL w' ⟨g3,3,D⟩=Z (H x.Start)/\QL w' ⟨g3,4,D⟩=Z (G B1 x.fB.length d1)/\QL w' ⟨g3,5,D⟩=Z (J C x.fE)/\QL w' ⟨g3,6,D⟩=Z (H x.fF)) 10 (by kernel_rfl) ⟨zc ah,zc q0,zc q1,zc q2,zc q3,zc q4,zc q5,zc q6⟩ (fun a2=>?_)
   have a3:=a3.grow ((ft.refl W5).drew)
   have aa:=aa.fx ((ft.refl W5).drew)
   have a8:=a8.trans (((ft.refl W5).drew).only _)
   clear ah q0 q1 q2 q3 q4 q5 q6 e5
   generalize W5.drew=Wd at a3 aa a8 a2 |-
   have av:=a2
   obtain⟨ah,q0,q1,q2,q3,q4,q5,q6⟩:=av
   refine .tq 0 [10] a2 ?_
   refine .tq 1 [10] a2 ?_
   refine .tq 2 [10] a2 ?_
   refine .tq 3 [10] a2 ?_
   refine .tq 4 [10] a2 ?_
   refine .tq 5 [10] a2 ?_
   refine fA.gQ (i:=6) (by kernel_rfl) rfl (fun K hK=>?_)
   ·go_simp
    have a2:=QQ (zk ah (F #[J C x.Op.Code,J C x.Op.Arg,J C x.fH,H x.Start,G B1 x.fB.length d1,J C x.fE,H x.fF] 227)) (QQ (zk q0 (F #[J C x.Op.Code,J C x.Op.Arg,J C x.fH,H x.Start,G B1 x.fB.length d1,J C x.fE,H x.fF] 227)) (QQ (zk q1 (F #[J C x.Op.Code,J C x.Op.Arg,J C x.fH,H x.Start,G B1 x.fB.length d1,J C x.fE,H x.fF] 227)) (QQ (zk q2 (F #[J C x.Op.Code,J C x.Op.Arg,J C x.fH,H x.Start,G B1 x.fB.length d1,J C x.fE,H x.fF] 227)) (QQ (zk q3 (F #[J C x.Op.Code,J C x.Op.Arg,J C x.fH,H x.Start,G B1 x.fB.length d1,J C x.fE,H x.fF] 227)) (QQ (zk q4 (F #[J C x.Op.Code,J C x.Op.Arg,J C x.fH,H x.Start,G B1 x.fB.length d1,J C x.fE,H x.fF] 227)) (QQ (zk q5 (F #[J C x.Op.Code,J C x.Op.Arg,J C x.fH,H x.Start,G B1 x.fB.length d1,J C x.fE,H x.fF] 227)) (zk q6 (F #[J C x.Op.Code,J C x.Op.Arg,J C x.fH,H x.Start,G B1 x.fB.length d1,J C x.fE,H x.fF] 227))))))));refine hK.out _ _ a2 ?_;clear hK
    try simp only[lay]
    refine fA.gQ (i:=7) (by kernel_rfl) rfl (fun K hK=>?_)
    ·have a0:ft Wd (Wd.alloc (F #[J C x.Op.Code,J C x.Op.Arg,J C x.fH,H x.Start,G B1 x.fB.length d1,J C x.fE,H x.fF] 227)):=(ft.refl _).alloc _
     refine wo (L:=m.items.length+1) rfl (.tmp 48) (.tmp 50) Qe (a3.hJ.fx a0) (aa.fx a0) al rfl rfl rfl (by intro j u hu;simpa[go_sem] using hu) rfl (by omega) (by omega) ?_;intro A7 c7 W7 S7 hon ar am;have a2:=QQ (zz ah a0 hon a3.gn.1) (QQ (zz q0 a0 hon a1) (QQ (zz q1 a0 hon a1) (QQ (zz q2 a0 hon a1) (QQ (zz q3 a0 hon a1) (QQ (zz q4 a0 hon a1) (QQ (zz q5 a0 hon a1) (zz q6 a0 hon a1)))))));have an:=(hon.block P.g (R5.1 (a3.grow a0).box).1 a3.gn.1).trans (a3.grow a0).box;obtain⟨_,_,_,_,_,_,_,_,_,_,_,_,_,zf,zl⟩:=nr an;clear an;refine hK.out _ _ a2 ?_;clear hK
     try simp only[lay]
     refine .tq 8 [9,10] a2 ?_;refine .tq 9 [10] a2 ?_;refine fA.last (by kernel_rfl) rfl (by kernel_rfl) (fun K hK=>?_);go_simp;refine hK.out _ _ ?_;clear hK
     try simp only[lay]
     have af:=(a3.grow a0).items (its':=m.items++[x]) (A':=A7) (c':=c7) (Sy:=S1) hy hon (by simpa using ar) (fun b hb=>by rcases am b hb with h | h | h;exact .inl h;exact .inr (.inl h);exact .inr (.inr h));simp only[QR,Rc,Ru,Rk] at af;have hE:zB P.E m code arg line chain=fS.iK ⟨m.items,m.depth,m.gL,I⟩ (m.items++[x]):=by unfold zB;rw[HX.out];rfl
     have aB:=(a8.trans (a0.only (P.g::(Si++Ss)))).size;have ay:=(a8.trans (a0.only _)).trans af.2
     have au:∀ b∈P.g::(S7++Ss),b∈P.g::(Si++Ss)∨W.heap.size<=b:=fun b hb=>by
      rcases Rp.1 hb with h | hb
      ·exact .inl (by simp[h])
      ·rcases Q7.1 hb with hb | hb
       ·rcases am b hb with h | h | h
        ·exact .inl (by simp[h])
        ·exact .inr (ax b h)
        ·exact .inr (by omega)
       ·exact .inl (by simp[hb])
     have af:=af;go_wp2_with(fail);exact Rz (v:=.tuple #[]) (by simp[Rd,results203,go_sem]) rfl ⟨rfl,_,⟨A7,c7,S7,As,cs,Ss,af.1,rfl⟩,ay,au⟩
theorem mM {g:Nat} {o0 o1 o2 o3 o4 o5:Value} {e:TypeId} (h:W.heap[g]?=Z (F #[o0,o1,o2,o3,o4,o5] e (0,0))) :
  QL W ⟨g,0,D⟩=Z o0/\QL W ⟨g,1,D⟩=Z o1/\QL W ⟨g,2,D⟩=Z o2/\QL W ⟨g,3,D⟩=Z o3/\QL W ⟨g,4,D⟩=Z o4/\QL W ⟨g,5,D⟩=Z o5/\(∀ j,Rb W ⟨g,j,D⟩=I)/\g<W.heap.size:=by
 refine⟨?_,?_,?_,?_,?_,?_,fun j=>by simp[Rb,h],(blt h)⟩
 all_goals
  rw[RV W g _ _ _ (0,0) h]
  rfl
theorem vg {g:Prop} (f:g:=by
  obtain⟨L',h1,h2,h3⟩:=h
  exact⟨L',h1,(hg.only L).trans h2,fun b hb=>(h3 b hb).imp id (fun h=>Rj hg.size h)⟩):g:=f
theorem gC.from {W1 W2:U} (hg:ft W W1)(h:gC P m rows W1 L W2):gC P m rows W L W2:=by
 exact vg
theorem gC.num {P:jj}{m m':fS}{rows:Q (Q Value)}{W W':U}{L:Q Nat}(h:gC P m rows W L W'){i:Nat}{v:Value}(hi:m'.items=m.items)
  (hrow:∀ a b c d e f g x y,(#[a,b,c,d,e,f,g,J C m.gL,J C P.E.args,J C m.depth,x,y,H m.start]:Array Value).setIfInBounds i v=#[a,b,c,d,e,f,g,J C m'.gL,J C P.E.args,J C m'.depth,x,y,H m'.start]) :
  gC P m' rows W L (W'.setCell ⟨P.g,i,D⟩ v):=by
 obtain⟨L',h1,h2,h3⟩:=h;obtain⟨g1,g2⟩:=h1.num (i:=i) (v:=v) hi hrow;exact⟨L',g1,h2.then g2 h3,h3⟩
theorem gC.fx {P:jj}{m:fS}{rows:Q (Q Value)}{W W' W2:U}{L:Q Nat}(h:gC P m rows W L W')(hg:ft W' W2):gC P m rows W L W2:=by
 obtain⟨L',h1,h2,h3⟩:=h;exact⟨L',h1.fx hg,h2.trans (hg.only L),h3⟩
theorem Ga {E:fW} {d:Int} (hi:0<=i/\i<=100)(hd : -1000000<=d/\d<=1000000)(hf : -1000<=s.first/\s.first<=1000)(ha:0<=E.args/\E.args<=100):fD (oR E d s i st).1/\fD (oR E d s i st).2:=by
 unfold oR fD;simp only;refine⟨⟨?_,?_⟩,⟨?_,?_⟩⟩
 ·split <;> split <;> omega
 ·split <;> split <;> omega
 ·split <;> split <;> (try split) <;> omega
 ·split <;> split <;> (try split) <;> omega
theorem zrI {A0 A1 A2:X Ri} {n0 n1 n2 c0 c1 c2:Nat} (h:jf P m rows W L)(hi:0<=i/\i<=100)(hd : -1000000<=m.depth/\m.depth<=1000000)(hf : -1000<=s.first/\s.first<=1000)(ha:0<=P.E.args/\P.E.args<=100) :
  Rh prog 220 #[.pointer (Z ⟨P.g,0,D⟩),.agg #[J C s.f,G A0 n0 c0,G A1 n1 c1,J C s.first,H s.outer,G A2 n2 c2],J C i,H st] W fun r W'=>r=.returned (.tuple #[J C (oR P.E m.depth s i st).1,J C (oR P.E m.depth s i st).2])/\ft W W':=by
 obtain⟨Ai,ci,As,cs,z0,z1,z2,z5,z6,z7,z8,z9,a7,a8,a9,zf,zl⟩:=h.cells;unfold oR;clear h;obtain⟨ou,a4⟩:∃ b,s.outer=b:=⟨_,rfl⟩
 obtain⟨fr,a3⟩:∃ b,P.E.gV=b:=⟨_,rfl⟩
 rw[a4];rw[a3] at z5 |-;clear a4 a3;obtain⟨d,a1⟩:∃ d,m.depth=d:=⟨_,rfl⟩
 rw[a1] at z9 hd |-;obtain⟨a,a0⟩:∃ d,P.E.args=d:=⟨_,rfl⟩
 rw[a0] at z8 ha |-;obtain⟨f,a2⟩:∃ d,s.first=d:=⟨_,rfl⟩
 rw[a2] at hf |-;clear a1 a0 a2;have w1:QP C (a-i)=a-i:=iw;have w2:QP C (i-a)=i-a:=iw;have w3:QP C (f+i)=f+i:=iw;have w4:QP C (d-1)=d-1:=iw;have w5:QP C (d-1-(i-a))=d-1-(i-a):=iw;have w6:QP C (d-1-(f+i))=d-1-(f+i):=iw;have w7:QP C (d+(a-i))=d+(a-i):=iw;have w8:QP C (-1-(i-a)) = -1-(i-a):=iw;have w9:QP C (-1-(f+i)) = -1-(f+i):=iw;have a5:QP C (1+(a-i))=1+(a-i):=iw;have a6:QP C (d-1-0)=d-1-0:=iw;by_cases hia:i<a
 ·cases ou <;> cases fr <;> cases st
  all_goals
   go_enter func220,ntmps220
   go_wp2_with(fail)
   refine QU ?_ rfl ⟨rfl,gG⟩
   simp[Rd,results220,go_sem,hia]
 ·cases ou <;> cases fr <;> cases st
  all_goals
   go_enter func220,ntmps220
   go_wp2_with(fail)
   refine QU ?_ rfl ⟨rfl,gG⟩
   simp[Rd,results220,go_sem,hia]
theorem zwG (h:jf P m rows W L)(hc:(zr.sl 3).R W W.heap.size [G Ac s.chain.length cc] s.chain)(hcl:s.chain.length<=1000)(hln:m.items.length<=100000)
  (hi:0<=i/\i<=100) (hd : -1000000<=m.depth/\m.depth<=1000000) (hf : -1000<=s.first/\s.first<=1000) (ha:0<=P.E.args/\P.E.args<=100) (hl:fD line) :
  Rh prog 217 #[.pointer (Z ⟨P.g,0,D⟩),.agg #[J C s.f,G Ac s.chain.length cc,G Al nl cl,J C s.first,H s.outer,G Av nv cv],J C i,J C line] W fun r W'=>r=.returned (.tuple #[])/\gC P (Bj P.E m s i line) rows W L W':=by
 have hb:=Ga (E:=P.E) (d:=m.depth) (s:=s) (i:=i) (st:=I) hi hd hf ha;have a2:fD m.depth:=⟨by omega,by omega⟩
 have hw:QP C (m.depth+1)=m.depth+1:=iw;go_enter func217,ntmps217;go_wp2_with(first | (go_at_call 220;(with_reducible refine(zrI (st:=I) (h.fx gF) hi hd hf ha).mono ?_);rintro e w1 ⟨rfl,a1⟩;have a0:ft W w1:=ft.trans (b:=_) gF a1;obtain⟨b0,b1,b2,b3,b4,b5,_,_⟩:=mM (zj (QO W (F #[J C s.f,G Ac s.chain.length cc,G Al nl cl,J C s.first,H s.outer,G Av nv cv] 253)) (ft.trans (b:=_) gF a1))) | (go_at_call 203;(with_reducible refine(zeQ (h.fx a0) (Ty.up _ hc a0) hcl hln hb.1 hb.2 hl a2).mono ?_);rintro e w2 ⟨rfl,h2⟩;have H2:=fh (gC.from a0 h2);obtain⟨L2,h3,_⟩:=h2;obtain⟨_,_,_,_,_,_,_,_,_,_,_,y9,_,_,_,yf,yl⟩:=h3.cells;replace y9:QL w2 ⟨P.g,9,D⟩=Z (J C m.depth):=y9;clear h3));exact Rz (v:=.tuple #[]) (by simp[Rd,results217,go_sem]) rfl ⟨rfl,H2.out.num rfl (fun _ _ _ _ _ _ _ _ _=>rfl)⟩
theorem zrN (h:jf P m rows W L)(hc:(zr.sl 3).R W W.heap.size [G Ad chain.length cd] chain)(hcl:chain.length<=1000)(hln:m.items.length<=100000)
  (hi:0<=i/\i<=100) (hd : -1000000<=m.depth/\m.depth<=1000000) (hf : -1000<=s.first/\s.first<=1000) (ha:0<=P.E.args/\P.E.args<=100) (hl:fD line) :
  Rh prog 214 #[.pointer (Z ⟨P.g,0,D⟩),.agg #[J C s.f,G Ac s.chain.length cc,G Al nl cl,J C s.first,H s.outer,G Av nv cv],J C i,J C line,G Ad chain.length cd] W fun r W'=>r=.returned (.tuple #[])/\gC P (mW P.E m s i line chain) rows W L W':=by
 have hb:=Ga (E:=P.E) (d:=m.depth) (s:=s) (i:=i) (st:=M) hi hd hf ha;have a2:fD m.depth:=⟨by omega,by omega⟩
 have hw:QP C (m.depth-1)=m.depth-1:=iw;go_enter func214,ntmps214;go_wp2_with(first | (go_at_call 220;(with_reducible refine(zrI (st:=M) (h.fx gF) hi hd hf ha).mono ?_);rintro e w1 ⟨rfl,a1⟩;have a0:ft W w1:=ft.trans (b:=_) gF a1;obtain⟨b0,b1,b2,b3,b4,b5,_,_⟩:=mM (zj (QO W (F #[J C s.f,G Ac s.chain.length cc,G Al nl cl,J C s.first,H s.outer,G Av nv cv] 253)) (ft.trans (b:=_) gF a1))) | (go_at_call 203;(with_reducible refine(zeQ (h.fx a0) (Ty.up _ hc a0) hcl hln hb.1 hb.2 hl a2).mono ?_);rintro e w2 ⟨rfl,h2⟩;have H2:=fh (gC.from a0 h2);obtain⟨L2,h3,_⟩:=h2;obtain⟨_,_,_,_,_,_,_,_,_,_,_,y9,_,_,_,yf,yl⟩:=h3.cells;replace y9:QL w2 ⟨P.g,9,D⟩=Z (J C m.depth):=y9;clear h3));exact Rz (v:=.tuple #[]) (by simp[Rd,results214,go_sem]) rfl ⟨rfl,H2.out.num rfl (fun _ _ _ _ _ _ _ _ _=>rfl)⟩
theorem zlg {v:Int} (h:jf P m rows W L)(hc:(zr.sl 3).R W W.heap.size [G Ad chain.length cd] chain)(hcl:chain.length<=1000)(hln:m.items.length<=100000)
  (hv:fD v) (hd : -1000000<=m.depth/\m.depth<=1000000) (hl:fD line) :
  Rh prog 211 #[.pointer (Z ⟨P.g,0,D⟩),J C v,J C line,G Ad chain.length cd] W fun r W'=>r=.returned (.tuple #[])/\gC P (lZ P.E m v line chain) rows W L W':=by
 have a1:fD m.depth:=⟨by omega,by omega⟩
 have hw:QP C (m.depth+1)=m.depth+1:=iw;have a0:fD 0:=⟨by omega,by omega⟩
 go_enter func211,ntmps211;go_wp2_with(first | (go_at_call 203;(with_reducible refine(zeQ h hc hcl hln a0 hv hl a1).mono ?_);rintro e w2 ⟨rfl,h2⟩;have H2:=fh h2;obtain⟨L2,h3,_⟩:=h2;obtain⟨_,_,_,_,_,_,_,_,_,_,_,y9,_,_,_,yf,yl⟩:=h3.cells;replace y9:QL w2 ⟨P.g,9,D⟩=Z (J C m.depth):=y9;clear h3));exact Rz (v:=.tuple #[]) (by simp[Rd,results211,go_sem]) rfl ⟨rfl,H2.out.num rfl (fun _ _ _ _ _ _ _ _ _=>rfl)⟩
end Go.Proofs.YthgbglbaemelhaaGreat
