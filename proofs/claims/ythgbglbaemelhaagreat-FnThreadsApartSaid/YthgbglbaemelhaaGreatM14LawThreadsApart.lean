/-
  PART.
-/
import Derived.Test.YthgbglbaemelhaaGreatM13LawThreadsApart
import Derived.StillTailTactics
set_option linter.unusedVariables false
set_option linter.unusedSimpArgs false
set_option maxRecDepth 100000
set_option maxHeartbeats 8000000
namespace Go.Proofs.YthgbglbaemelhaaGreat
open Value renaming slice->G,int->J,bool->H
open IntKind renaming i64->Z,wrap->Rg
open Option renaming none->C,some->D,map_some->TK
open Obj renaming cells->F
open Bool renaming false->I,true->M
open Go renaming World->U,results->Rv,Calls->RD,Addr->RJ,TypeId->R5,yielded->Th,undef->Ug
open World renaming cell?->Rb,frozen?->Rx,alloc->Su
open _root_.Int renaming toNat_natCast->Ry
open List renaming length_cons->RA,length_nil->RR,nil_append->RY,take_succ_cons->RZ,take_zero->SH
open RowKit renaming intOf->RS
open _root_.Nat renaming add_zero->Sr
open Region renaming wanted->RV,ready->Sn,noSelect->TZ,Mode->Ub,free->Wu
open Tryz
open Go.RowKit
variable {A' Ac Ad Ai Al As Av:X RJ}{L Lm S S' Si Ss Sv:Q Nat}{P:jt}{R0 rows:Q (Q Value)}{W W' W1 W2 w:U}{c' cc cd ci cl cs cv k nl nv:Nat}{io fs:Q Int}{e:R5}{f g i line tgt v:Int}{m m':fT}{s:fH}{st:Bool}
def Qh (w W:U)(k:Nat)(e:Ending)(W':U):Prop:=∃ b:fY,e=.returned (.agg #[J Z b.M2,J Z b.IR,H b.Wz,H b.NE])/\jP b=M/\iO w W' k/\fx [k] W W'
theorem DP:∀ x∈([0,1,2,3]:Q Int),fE x/\0<=x/\x<=3:=by
 intro x hx;have:x=0∨x=1∨x=2∨x=3:=by simpa using hx
 rcases this with rfl | rfl | rfl | rfl <;> exact⟨⟨qo,qo⟩,qo,qo⟩
theorem zvV (hC:iO w W k):RD prog 69 #[.pointer (D ⟨k,0,C⟩)] W (Qh w W k):=by
 have aw:=hC.lt;go_enter func69,ntmps69;go_upto_region 1 with(fail);have e2:=Re W (F #[J Z 0,J Z 0,H I,H I] 71);have hG:fu W (W.alloc (F #[J Z 0,J Z 0,H I,H I] 71)):=gG;generalize (W.alloc _)=Y at e2 hG |-;obtain⟨g2,ag⟩:∃ g,W.heap.size=g:=⟨_,rfl⟩
 rw[ag] at e2 |-;have au:=fh ag;have ab:g2≠k:=K9;have ax:w.heap.size<=g2:=by have:=hC.lo;omega
 clear ag;have am:=hC.more hG;have af:=hG.only [k]
 go_upto_region 2 with(first
  | (go_at_call 36;(with_reducible refine(nS am 64 qo qo).mono ?_);rintro e W1 ⟨x,rfl,hx,ac,a3⟩;have hI:=Dz (W:=W1) (e:=3) (cs:=#[J Z 0,J Z 1,J Z 2,J Z 3]) (n:=4) (g:=W1.heap.size) [0,1,2,3] rfl rfl rfl (fun a ha=>(DP a ha).1) qo;have a1:iO w (W1.alloc (F #[J Z 0,J Z 1,J Z 2,J Z 3] 3)) k:=ac.more gG;have ar:∀ ad,D (⟨W1.heap.size,0,C⟩:RJ)=D ad->ad.block≠k:=(fun ad e=>by injection e with e;subst e;have:=ac.lt;simp only;omega))
  | (go_at_call 71;(with_reducible refine(zrt a1 hI ar qo qo).mono ?_);rintro e W2 ⟨y,rfl,hy,a6,a4⟩))
 have a7:fu W2 (W2.alloc (F #[J Z x,J Z y,H I,H I] 71)):=gG;have e3:=Re W2 (F #[J Z x,J Z y,H I,H I] 71);have a2:fu W1 (W1.alloc (F #[J Z 0,J Z 1,J Z 2,J Z 3] 3)):=gG;have a8:=(((af.trans a3).trans (a2.only [k])).trans a4).trans (a7.only [k]);have ae:=a6.more a7;have ap:=((a3.trans (a2.only [k])).trans a4).trans (a7.only [k]);have l2:=(blt e2)
 have e2:=(ap.block g2 l2 (by simpa using ab)).trans e2;have a5:W2.heap.size≠k:=by have:=a6.lt;omega
 have ah:w.heap.size<=W2.heap.size:=a6.fy.size;have av:W.heap.size<=W2.heap.size:=by have:=a8.size;have:=(af.trans ((a3.trans (a2.only [k])).trans a4)).size;omega
 have a0:g2≠W2.heap.size:=by have:=(a3.trans (a2.only [k])).size;have:=a4.size;omega
 have hb:=DP y (by simpa using hy);generalize (W2.alloc _)=Y3 at e2 e3 a8 ae |-;obtain⟨g3,aq⟩:∃ g,W2.heap.size=g:=⟨_,rfl⟩
 rw[aq] at e3 a5 ah a0 av |-;clear aq a7 a2 ap a3 a4 ac a6 hI a1 ar af am l2;go_upto_region 3 with(go_at_call 103;(with_reducible refine(zhc ae 2 qo qo).mono ?_);rintro e W4 ⟨b1,rfl,ai,a9⟩;have e4:=(a9.block g3 (blt e3) (by simpa using a5)).trans e3;have e2:=(a9.block g2 (blt e2) (by simpa using ab)).trans e2;obtain⟨r0,r1,r2,r3,rf,rl⟩:=iL e4);have o5:fx [g3] W4 (W4.setCell ⟨g3,2,C⟩ (H b1)):=(fx.refl [g3] W4).setCell II _;have e5:=zV e4 2 (H b1);have aj:=ai.only o5 (by simpa using a5.symm) (fun b hb=>by simp only[Rc] at hb;omega);have an:=(a8.trans a9).then o5 (fun b hb=>.inr (by simp only[Rc] at hb;omega));have e2:=(o5.block g2 (blt e2) (by simpa using a0)).trans e2;simp only[TS,List.set_cons_zero,List.set_cons_succ] at e5;generalize (W4.setCell _ _)=W5 at e2 e5 aj an |-;clear o5 e4 r0 r1 r2 r3 rf rl ai a9 a8 ae;go_upto_region 4 with(go_at_call 103;(with_reducible refine(zhc aj 2 qo qo).mono ?_);rintro e W6 ⟨b2,rfl,ak,aa⟩;have e6:=(aa.block g3 (blt e5) (by simpa using a5)).trans e5;have e2:=(aa.block g2 (blt e2) (by simpa using ab)).trans e2;obtain⟨r0,r1,r2,r3,rf,rl⟩:=iL e6);have o7:fx [g3] W6 (W6.setCell ⟨g3,3,C⟩ (H b2)):=(fx.refl [g3] W6).setCell II _;have e7:=zV e6 3 (H b2);have al:=ak.only o7 (by simpa using a5.symm) (fun b hb=>by simp only[Rc] at hb;omega);have ao:=(an.trans aa).then o7 (fun b hb=>.inr (by simp only[Rc] at hb;omega));have e2:=(o7.block g2 (blt e2) (by simpa using a0)).trans e2;simp only[TS,List.set_cons_zero,List.set_cons_succ] at e7;generalize (W6.setCell _ _)=W7 at e2 e7 al ao |-;clear o7 e6 r0 r1 r2 r3 rf rl ak aa;obtain⟨r0,r1,r2,r3,rf,rl⟩:=iL e7;obtain⟨s0,s1,s2,s3,sf,sl⟩:=iL e2;go_wp2_with(fail);obtain⟨e8,o8⟩:=wM e2 (J Z x) (J Z y) (H b1) (H b2);obtain⟨t0,t1,t2,t3,_,_⟩:=iL e8;refine Rj (v:=.agg #[J Z x,J Z y,H b1,H b2]) (by simp[Rv,results69,go_sem,t0,t1,t2,t3]) rfl ?_;refine⟨⟨x,y,b1,b2⟩,rfl,?_,al.only o8 (by simpa using ab.symm) (fun b hb=>by simp only[Rc] at hb;omega),ao.then o8 (fun b hb=>.inr (by simp only[Rc] at hb;have:=au.out;omega))⟩;unfold jP;rw[Rq];exact⟨zu.2 ⟨by simp only;omega,by simp only;omega⟩,zu.2 hb.2⟩
theorem iq.fJ {P:jt}{m:fT}{rows:Q (Q Value)}{W W':U}{Ai As:X RJ}{ci cs:Nat}{Si Ss S:Q Nat}(h:iq P m rows W Ai ci Si As cs Ss)(ho:fx S W W')(hS:∀ b∈S,b≠P.g/\b∉Si/\b∉Ss/\P.Y.heap.size<=b):iq P m rows W' Ai ci Si As cs Ss:=
 ⟨(ho.block P.g (blt h.box) (fun hm=>(hS _ hm).1 rfl)).trans h.box,h.ia.fJ ho (fun b hb hm=>(hS b hm).2.1 hb),h.nu.fJ ho (fun b hb hm=>(hS b hm).2.2.1 hb),h.jj,h.gn,ho.fy h.fy (fun b hb=>(hS b hb).2.2.2),h.low⟩
theorem iq.grow (h:iq P m rows W Ai ci Si As cs Ss)(hg:fu W W'):iq P m rows W' Ai ci Si As cs Ss:=
 ⟨zj h.box hg,h.ia.fy hg,h.nu.fy hg,h.jj,h.gn,h.fy.trans hg,h.low⟩
theorem iq.num (h:iq P m rows W Ai ci Si As cs Ss){i:Nat}{v:Value}(hi:m'.pi=m.pi)
  (hrow:∀ a b c d e f g x y,(#[a,b,c,d,e,f,g,J Z m.gO,J Z P.E.args,J Z m.jp,x,y,H m.start]:Array Value).setIfInBounds i v=#[a,b,c,d,e,f,g,J Z m'.gO,J Z P.E.args,J Z m'.jp,x,y,H m'.start]) :
  iq P m' rows (W.setCell ⟨P.g,i,C⟩ v) Ai ci Si As cs Ss/\fx [P.g] W (W.setCell ⟨P.g,i,C⟩ v):=by
 have a0:fx [P.g] W (W.setCell ⟨P.g,i,C⟩ v):=(fx.refl _ _).setCell (p:=⟨P.g,i,C⟩) II _;refine⟨⟨jd (i:=i) (v:=v) h.box (by rw[hrow,hi]),?_,?_,h.jj,h.gn,a0.fy h.fy (fun b hb=>by simp at hb;exact hb ▸ h.low.1),h.low⟩,a0⟩
 ·rw[hi]
  exact h.ia.fJ a0 (fun x hx hm=>by simp at hm;exact h.gn.1 (hm ▸ hx))
 ·exact h.nu.fJ a0 (fun x hx hm=>by simp at hm;exact h.gn.2 (hm ▸ hx))
theorem iq.pi {Sy:Q Nat} {its':Q fM} (h:iq P m rows W Ai ci Si As cs Ss)
  (hy:∀ b∈Sy,b≠P.g/\b∉Ss/\P.Y.heap.size<=b) (hon:fx Si W W') (hH:Has (ph.sl 227) W' [G A' its'.length c'] its' S') (hS:∀ b∈S',b∈Si∨b∈Sy∨W.heap.size<=b) :
  iq P (m.iN its') rows (W'.setCell ⟨P.g,10,C⟩ (G A' its'.length c')) A' c' S' As cs Ss/\fx (P.g::(Si++Ss)) W (W'.setCell ⟨P.g,10,C⟩ (G A' its'.length c')):=by
 have a4:=(blt h.box)
 have a3:=(hon.block P.g a4 h.gn.1).trans h.box;have a0:fx [P.g] W' (W'.setCell ⟨P.g,10,C⟩ (G A' its'.length c')):=(fx.refl _ _).setCell (p:=⟨P.g,10,C⟩) (by simp) _;have a6:=h.fy.size
 have a1:P.g∉S':=fun hm=>by
  rcases hS _ hm with h1 | h1 | h1
  ·exact h.gn.1 h1
  ·exact(hy _ h1).1 rfl
  ·omega
 have a2:∀ b∈S',b∉Ss:=fun b hb hm=>by
  rcases hS b hb with h1 | h1 | h1
  ·exact h.jj b h1 hm
  ·exact(hy b h1).2.1 hm
  ·have:=h.nu.lt b hm;omega
 have a5:∀ b∈S',P.Y.heap.size<=b:=fun b hb=>by
  rcases hS b hb with h1 | h1 | h1
  ·exact h.low.2.1 b h1
  ·exact(hy b h1).2.2
  ·omega
 refine⟨⟨jd (i:=10) (v:=G A' its'.length c') a3 rfl,hH.fJ a0 (fun b hb hm=>by simp at hm;exact a1 (hm ▸ hb)),(h.nu.fJ hon (fun b hb hm=>h.jj b hm hb)).fJ a0 (fun b hb hm=>by simp at hm;exact h.gn.2 (hm ▸ hb)),a2,⟨a1,h.gn.2⟩,a0.fy (hon.fy h.fy h.low.2.1) (fun b hb=>by simp at hb;exact hb ▸ h.low.1),⟨h.low.1,a5,h.low.2.2⟩⟩,?_⟩;exact(hon.mono (fun b hb=>by simp[hb])).trans (a0.mono (fun b hb=>by simp at hb;simp[hb]))
theorem Xb {g:Prop} (f:g:=by
  try simp only[lay]
  refine fA.gL (i:=10) Fs rfl (fun K hK=>?_)
  ·refine zR (L:=io.length) rfl (.tmp 19) (.tmp 20) lN zE HJ.ha (Ty.up _ hc HJ.hg) rfl rfl rfl (RF _).symm K9 K9 ?_
   intro B1 d1 W1 S1 hon hH hS
   rw[RY] at hH
   have HJ:=HJ.oM hon hH hS
   refine hK.out _ _ (HJ.cell z12) ?_
   clear hK
   try simp only[lay]
   refine .tq 11 [13] (HJ.cell z12) ?_
   obtain⟨o0,o1,o2,o3,o4,o5,o6,of,ol⟩:=zK HJ.ho
   refine fA.last Fs rfl Fs (fun K hK=>?_)
   go_simp
   refine hK.out _ _ ?_
   clear hK
   try simp only[lay]
   have h2:=lO HJ.ho (J Z code) (J Z arg) (J Z line) (H m.start) (G B1 io.length d1) (J Z 0) (H I)
   have HJ:=HJ.store h2.2 h2.1 hgo
   go_wp2_with(fail)
   go_meet
   exact⟨_,B1,d1,S1,rfl,HJ,hgo⟩):g:=f
theorem ze6 {code arg:Int} (h:jl P m rows W L)
  (hc:(zr.sl 3).R W W.heap.size [G Ac io.length cc] io) (hcl:io.length<=1000) (hln:m.pi.length<=100000) (b0:fE code) (b1:fE arg) (b2:fE line) (b3:fE m.jp) :
  RD prog 203 #[.pointer (D ⟨P.g,0,C⟩),J Z code,J Z arg,J Z line,G Ac io.length cc] W fun r W'=>r=.returned (.tuple #[])/\gC P (zI P.E m code arg line io) rows W L W':=by
 obtain⟨Ai,ci,Si,As,cs,Ss,hB,rfl⟩:=h;obtain⟨z0,z1,z2,z3,z4,z5,z6,z7,z8,z9,ad,ai,z12,zf,zl⟩:=nD hB.box;go_enter func203,ntmps203;go_upto_region 0 with(fail);go_cut [10] from 10 to 22 (fun v wx=>∃(g3:Nat) (B1:X RJ) (d1:Nat) (S1:Q Nat),v=.pointer (D ⟨g3,0,C⟩)/\J3 zr zr 3 3 W wx (G B1 io.length d1) (G C 0 0) io [] S1 [] g3 (F #[J Z code,J Z arg,J Z line,H m.start,G B1 io.length d1,J Z 0,H I] 227 (0,0))/\W.heap.size<=g3)
 case first=>
  refine zX (fun w'=>Rb w' ⟨P.g,12,C⟩=D (H m.start)) 13 Fs (zc z12) (fun hH=>?_);have HJ:=J3.start (T:=zr) (Q5:=zr) (e:=3) (f:=3) hB.box;have HJ:=HJ.fy ((fu.refl _).drew);generalize hYd:W.drew=Wx at HJ hH |-;clear hYd;refine .tq 0 [13] hH ?_;refine .tq 1 [13] hH ?_;refine .tq 2 [13] hH ?_;refine .tq 3 [13] hH ?_;refine .tq 4 [13] hH ?_;refine .tq 5 [13] hH ?_;refine .tq 6 [13] hH ?_;refine .tq 7 [13] hH ?_;refine .tq 9 [13] hH ?_;refine fA.py (i:=8) (j:=12) Fs rfl rfl (fun K hK=>?_) (fun K hK=>?_)
  ·go_simp
   have HJ:=HJ.lk;refine hK.out _ _ (HJ.cell z12) ?_;clear hK;generalize Su _ (F #[] 3)=Wx at HJ |-
   try simp only[lay]
   refine fA.py (i:=10) (j:=12) Fs rfl rfl (fun K hK=>?_) (fun K hK=>?_)
   ·refine zR (L:=io.length) rfl (.tmp 19) (.tmp 20) lN zE HJ.ha (Ty.up _ hc HJ.hg) rfl rfl rfl (RF _).symm K9 K9 ?_
    intro B1 d1 W1 S1 hon hH hS;rw[RY] at hH;have HJ:=HJ.oM hon hH hS;refine hK.out _ _ (HJ.cell z12) ?_;clear hK
    try simp only[lay]
    refine .tq 11 [13] (HJ.cell z12) ?_;refine fA.gL (i:=12) Fs rfl (fun K hK=>?_)
    ·go_simp
     have hgo:=HJ.hg.size;have HJ:=HJ.kp (cs:=#[J Z 0,J Z 0,J Z 0,H I,G C 0 0,J Z 0,H I]) (t:=227);refine hK.out _ _ (HJ.cell z12) ?_;clear hK;generalize Su _ (F #[J Z 0,J Z 0,J Z 0,H I,G C 0 0,J Z 0,H I] 227)=Wx at HJ |-
     try simp only[lay]
     obtain⟨o0,o1,o2,o3,o4,o5,o6,of,ol⟩:=zK HJ.ho;refine fA.last Fs rfl Fs (fun K hK=>?_);go_simp;refine hK.out _ _ ?_;clear hK
     try simp only[lay]
     have h2:=lO HJ.ho (J Z code) (J Z arg) (J Z line) (H m.start) (G B1 io.length d1) (J Z 0) (H I);have HJ:=HJ.store h2.2 h2.1 hgo;go_wp2_with(fail);go_meet;exact⟨_,B1,d1,S1,rfl,HJ,hgo⟩
   ·go_simp
    have hgo:=HJ.hg.size;have HJ:=HJ.kp (cs:=#[J Z 0,J Z 0,J Z 0,H I,G C 0 0,J Z 0,H I]) (t:=227);refine hK.out _ _ (HJ.cell z12) ?_;clear hK;generalize Su _ (F #[J Z 0,J Z 0,J Z 0,H I,G C 0 0,J Z 0,H I] 227)=Wx at HJ |-;exact Xb
  ·go_simp
   have hgo:=HJ.hg.size;have HJ:=HJ.kp (cs:=#[J Z 0,J Z 0,J Z 0,H I,G C 0 0,J Z 0,H I]) (t:=227);refine hK.out _ _ (HJ.cell z12) ?_;clear hK;generalize Su _ (F #[J Z 0,J Z 0,J Z 0,H I,G C 0 0,J Z 0,H I] 227)=Wx at HJ |-
   try simp only[lay]
   refine fA.gL (i:=8) Fs rfl (fun K hK=>?_)
   ·go_simp
    have HJ:=HJ.lk;refine hK.out _ _ (HJ.cell z12) ?_;clear hK;generalize Su _ (F #[] 3)=Wx at HJ |-;exact Xb
 case rest=>
  obtain⟨g3,B1,d1,S1,rfl,HJ,ao⟩:=hcut;have aj:=hB.grow HJ.hg;have ak:=hB;have az:=(blt hB.box)
  have aA:P.g≠g3:=K9;have ac:g3≠P.g:=K9
  have ab:∀ b∈[g3],b≠P.g/\b∉Si/\b∉Ss/\P.Y.heap.size<=b:=fun b hb=>by
   simp at hb;subst hb;exact⟨ac,fun hm=>by have:=hB.ia.lt _ hm;omega,fun hm=>by have:=hB.nu.lt _ hm;omega,by have:=hB.low.1;omega⟩
  obtain⟨o0,o1,o2,o3,o4,o5,o6,of,ol⟩:=zK HJ.ho;clear z0 z1 z2 z3 z4 z5 z6 z7 z8 z9 ad ai z12 zf zl;obtain⟨z0,z1,z2,z3,z4,z5,z6,z7,z8,z9,ad,ai,z12,zf,zl⟩:=nD aj.box;clear hB
  obtain⟨x,hx,aw⟩:∃ x,ud P.E m code arg line io=x/\((P.E.gY=M/\0<m.pi.length/\x=⟨⟨code,arg⟩,line,m.start,io,0,M⟩)∨(P.E.gY=M/\¬ 0<m.pi.length/\x=⟨⟨code,arg⟩,line,m.start,io,m.jp,I⟩)∨(P.E.gY=I/\True/\x=⟨⟨code,arg⟩,line,m.start,io,m.jp,I⟩)):=by
   refine⟨_,rfl,?_⟩;by_cases a6:P.E.gY=M
   ·by_cases h0:0<m.pi.length
    ·exact .inl ⟨a6,h0,by unfold ud;simp[a6,h0]⟩
    ·exact .inr (.inl ⟨a6,h0,by unfold ud;simp[h0]⟩)
   ·have ag:P.E.gY=I:=by simpa using a6
    exact .inr (.inr ⟨ag,trivial,by unfold ud;simp[ag]⟩)
  rcases aw with⟨a6,h0,a7⟩ | ⟨a6,h0,a7⟩ | ⟨a6,h0,a7⟩
  all_goals rw[a6] at z5
  case' inl=>
   have ap:(m.pi.length:Int) > 0:=K9;have aq:0<(m.pi.length:Int):=K9;have e1:=jd (i:=6) (v:=H M) HJ.ho rfl;have a4:fx [g3] wc (wc.setCell ⟨g3,6,C⟩ (H M)):=(fx.refl _ _).setCell (p:=⟨g3,6,C⟩) II _;have ae:=aj.fJ a4 ab;obtain⟨a3,a5⟩:=ae.num (i:=12) (v:=H I) (m':=⟨m.pi,m.jp,m.gO,I⟩) rfl (fun _ _ _ _ _ _ _ _ _=>rfl);have e2:=(a5.block g3 (blt e1) (by simpa using ac)).trans e1;have a8:fx (P.g::(Si++Ss)) W ((wc.setCell ⟨g3,6,C⟩ (H M)).setCell ⟨P.g,12,C⟩ (H I)):=((HJ.hg.only _).then (a4.mono (S':=[g3]) (fun _ h=>h)) (fun b hb=>by simp at hb;subst hb;exact .inr ao)).then (a5.mono (S':=[P.g]) (fun _ h=>h)) (fun b hb=>by simp at hb;subst hb;exact .inl II);have a9:=(HJ.ha.fJ a4 (fun b hb hm=>by simp at hm;exact HJ.nt (hm ▸ hb))).fJ a5 (fun b hb hm=>by simp at hm;subst hm;have:=HJ.la _ hb;omega)
   have aa:Has ph ((wc.setCell ⟨g3,6,C⟩ (H M)).setCell ⟨P.g,12,C⟩ (H I)) [J Z x.Op.Code,J Z x.Op.Wv,J Z x.fG,H x.kw,G B1 x.fB.length d1,J Z x.fF,H x.fD] x S1:=by
    subst a7;exact⟨CL B1 d1 S1 b0 b1 b2 a9.1 ((⟨qo,qo⟩:fE 0)),a9.2⟩
   have e5:((wc.setCell ⟨g3,6,C⟩ (H M)).setCell ⟨P.g,12,C⟩ (H I)).heap[g3]?=D (F #[J Z x.Op.Code,J Z x.Op.Wv,J Z x.fG,H x.kw,G B1 x.fB.length d1,J Z x.fF,H x.fD] 227 (0,0)):=by subst a7;exact e2
   clear a7 e1 a4 ae a5 e2 a9;go_upto_region 5 with(fail);generalize ((wc.setCell _ _).setCell _ _)=W5 at a3 a8 aa e5 |-
  case' inr.inl=>
   have ap:¬ ((m.pi.length:Int) > 0):=K9;have aq:¬ (0<(m.pi.length:Int)):=K9
  case' inr.inl | inr.inr=>
   have e1:=jd (i:=5) (v:=J Z m.jp) HJ.ho rfl;have a4:fx [g3] wc (wc.setCell ⟨g3,5,C⟩ (J Z m.jp)):=(fx.refl _ _).setCell (p:=⟨g3,5,C⟩) II _;have ae:=aj.fJ a4 ab;obtain⟨a3,a5⟩:=ae.num (i:=12) (v:=H I) (m':=⟨m.pi,m.jp,m.gO,I⟩) rfl (fun _ _ _ _ _ _ _ _ _=>rfl);have e2:=(a5.block g3 (blt e1) (by simpa using ac)).trans e1;have a8:fx (P.g::(Si++Ss)) W ((wc.setCell ⟨g3,5,C⟩ (J Z m.jp)).setCell ⟨P.g,12,C⟩ (H I)):=((HJ.hg.only _).then (a4.mono (S':=[g3]) (fun _ h=>h)) (fun b hb=>by simp at hb;subst hb;exact .inr ao)).then (a5.mono (S':=[P.g]) (fun _ h=>h)) (fun b hb=>by simp at hb;subst hb;exact .inl II);have a9:=(HJ.ha.fJ a4 (fun b hb hm=>by simp at hm;exact HJ.nt (hm ▸ hb))).fJ a5 (fun b hb hm=>by simp at hm;subst hm;have:=HJ.la _ hb;omega)
   have aa:Has ph ((wc.setCell ⟨g3,5,C⟩ (J Z m.jp)).setCell ⟨P.g,12,C⟩ (H I)) [J Z x.Op.Code,J Z x.Op.Wv,J Z x.fG,H x.kw,G B1 x.fB.length d1,J Z x.fF,H x.fD] x S1:=by
    subst a7;exact⟨CL B1 d1 S1 b0 b1 b2 a9.1 (b3),a9.2⟩
   have e5:((wc.setCell ⟨g3,5,C⟩ (J Z m.jp)).setCell ⟨P.g,12,C⟩ (H I)).heap[g3]?=D (F #[J Z x.Op.Code,J Z x.Op.Wv,J Z x.fG,H x.kw,G B1 x.fB.length d1,J Z x.fF,H x.fD] 227 (0,0)):=by subst a7;exact e2
   clear a7 e1 a4 ae a5 e2 a9;go_upto_region 5 with(fail);generalize ((wc.setCell _ _).setCell _ _)=W5 at a3 a8 aa e5 |-
  all_goals
   have HX:=fh hx
   clear hx
   have ax:∀ b∈S1,W.heap.size<=b:=HJ.la
   have al:∀ b∈Si,b∉S1:=fun b hb hm=>by have h1:=HJ.la b hm;have h2:=ak.ia.lt b hb;omega
   have hy:∀ b∈S1,b≠P.g/\b∉Ss/\P.Y.heap.size<=b:=fun b hb=>⟨fun h=>by have h1:=HJ.la b hb;omega,fun hm=>by have h1:=HJ.la b hb;have h2:=ak.nu.lt b hm;omega,by have h1:=HJ.la b hb;have h2:=ak.fy.size;omega⟩
   have a1:g3∉Si:=fun hm=>(ab g3 II).2.1 hm
   clear HJ aj
   clear z0 z1 z2 z3 z4 z5 z6 z7 z8 z9 ad ai z12 zf zl o0 o1 o2 o3 o4 o5 o6 of ol
   obtain⟨z0,z1,z2,z3,z4,z5,z6,z7,z8,z9,ad,ai,z12,zf,zl⟩:=nD a3.box
   obtain⟨q0,q1,q2,q3,q4,q5,q6,qf,ql⟩:=zK e5
   have ah:Rb W5 ⟨P.g,10,C⟩=D (G Ai m.pi.length ci):=ad
   clear z0 z1 z2 z3 z4 z5 z6 z7 z8 z9 ad ai z12 zf zl qf ql
   refine zX (fun w'=>Rb w' ⟨P.g,10,C⟩=D (G Ai m.pi.length ci)/\Rb w' ⟨g3,0,C⟩=D (J Z x.Op.Code)/\Rb w' ⟨g3,1,C⟩=D (J Z x.Op.Wv)/\Rb w' ⟨g3,2,C⟩=D (J Z x.fG)/\Rb w' ⟨g3,3,C⟩=D (H x.kw)/\Rb w' ⟨g3,4,C⟩=D (G B1 x.fB.length d1)/\Rb w' ⟨g3,5,C⟩=D (J Z x.fF)/\Rb w' ⟨g3,6,C⟩=D (H x.fD)) 10 Fs ⟨zc ah,zc q0,zc q1,zc q2,zc q3,zc q4,zc q5,zc q6⟩ (fun a2=>?_)
   have a3:=a3.grow ((fu.refl W5).drew)
   have aa:=aa.fy ((fu.refl W5).drew)
   have a8:=a8.trans (((fu.refl W5).drew).only _)
   clear ah q0 q1 q2 q3 q4 q5 q6 e5
   generalize W5.drew=Wd at a3 aa a8 a2 |-
   have av:=a2
   obtain⟨ah,q0,q1,q2,q3,q4,q5,q6⟩:=av
   refine .tq 0 [10] a2 ?_
   refine .tq 1 [10] a2 ?_
   refine .tq 2 [10] a2 ?_
   refine .tq 3 [10] a2 ?_
   refine .tq 4 [10] a2 ?_
   refine .tq 5 [10] a2 ?_
   refine fA.gL (i:=6) Fs rfl (fun K hK=>?_)
   ·go_simp
    have a2:=Rf (zo ah (F #[J Z x.Op.Code,J Z x.Op.Wv,J Z x.fG,H x.kw,G B1 x.fB.length d1,J Z x.fF,H x.fD] 227)) (Rf (zo q0 (F #[J Z x.Op.Code,J Z x.Op.Wv,J Z x.fG,H x.kw,G B1 x.fB.length d1,J Z x.fF,H x.fD] 227)) (Rf (zo q1 (F #[J Z x.Op.Code,J Z x.Op.Wv,J Z x.fG,H x.kw,G B1 x.fB.length d1,J Z x.fF,H x.fD] 227)) (Rf (zo q2 (F #[J Z x.Op.Code,J Z x.Op.Wv,J Z x.fG,H x.kw,G B1 x.fB.length d1,J Z x.fF,H x.fD] 227)) (Rf (zo q3 (F #[J Z x.Op.Code,J Z x.Op.Wv,J Z x.fG,H x.kw,G B1 x.fB.length d1,J Z x.fF,H x.fD] 227)) (Rf (zo q4 (F #[J Z x.Op.Code,J Z x.Op.Wv,J Z x.fG,H x.kw,G B1 x.fB.length d1,J Z x.fF,H x.fD] 227)) (Rf (zo q5 (F #[J Z x.Op.Code,J Z x.Op.Wv,J Z x.fG,H x.kw,G B1 x.fB.length d1,J Z x.fF,H x.fD] 227)) (zo q6 (F #[J Z x.Op.Code,J Z x.Op.Wv,J Z x.fG,H x.kw,G B1 x.fB.length d1,J Z x.fF,H x.fD] 227))))))));refine hK.out _ _ a2 ?_;clear hK
    try simp only[lay]
    refine fA.gL (i:=7) Fs rfl (fun K hK=>?_)
    ·have a0:fu Wd (Wd.alloc (F #[J Z x.Op.Code,J Z x.Op.Wv,J Z x.fG,H x.kw,G B1 x.fB.length d1,J Z x.fF,H x.fD] 227)):=(fu.refl _).alloc _
     refine wU (L:=m.pi.length+1) rfl (.tmp 48) (.tmp 50) Qt (a3.ia.fy a0) (aa.fy a0) al rfl rfl rfl (by intro j u hu;simpa[go_sem] using hu) rfl K9 K9 ?_;intro A7 c7 W7 S7 hon ar am;have a2:=Rf (zC ah a0 hon a3.gn.1) (Rf (zC q0 a0 hon a1) (Rf (zC q1 a0 hon a1) (Rf (zC q2 a0 hon a1) (Rf (zC q3 a0 hon a1) (Rf (zC q4 a0 hon a1) (Rf (zC q5 a0 hon a1) (zC q6 a0 hon a1)))))));have an:=(hon.block P.g (R9.1 (a3.grow a0).box).1 a3.gn.1).trans (a3.grow a0).box;obtain⟨_,_,_,_,_,_,_,_,_,_,_,_,_,zf,zl⟩:=nD an;clear an;refine hK.out _ _ a2 ?_;clear hK
     try simp only[lay]
     refine .tq 8 [9,10] a2 ?_;refine .tq 9 [10] a2 ?_;refine fA.last Fs rfl Fs (fun K hK=>?_);go_simp;refine hK.out _ _ ?_;clear hK
     try simp only[lay]
     have af:=(a3.grow a0).pi (its':=m.pi++[x]) (A':=A7) (c':=c7) (Sy:=S1) hy hon (by simpa using ar) (fun b hb=>by rcases am b hb with h | h | h;exact .inl h;exact .inr (.inl h);exact .inr (.inr h));simp only[Rh,RA,RR,RF] at af;have hE:zI P.E m code arg line io=fT.iN ⟨m.pi,m.jp,m.gO,I⟩ (m.pi++[x]):=by unfold zI;rw[HX.out];rfl
     have aB:=(a8.trans (a0.only (P.g::(Si++Ss)))).size;have ay:=(a8.trans (a0.only _)).trans af.2
     have au:∀ b∈P.g::(S7++Ss),b∈P.g::(Si++Ss)∨W.heap.size<=b:=fun b hb=>by
      rcases RO.1 hb with h | hb
      ·exact .inl (by simp[h])
      ·rcases Rr.1 hb with hb | hb
       ·rcases am b hb with h | h | h
        ·exact .inl (by simp[h])
        ·exact .inr (ax b h)
        ·exact .inr K9
       ·exact .inl (by simp[hb])
     have af:=af;go_wp2_with(fail);exact RI (v:=.tuple #[]) (by simp[Rv,results203,go_sem]) rfl ⟨rfl,_,⟨A7,c7,S7,As,cs,Ss,af.1,rfl⟩,ay,au⟩
theorem mU {g:Nat} {o0 o1 o2 o3 o4 o5:Value} (h:W.heap[g]?=D (F #[o0,o1,o2,o3,o4,o5] e (0,0))) :
  Rb W ⟨g,0,C⟩=D o0/\Rb W ⟨g,1,C⟩=D o1/\Rb W ⟨g,2,C⟩=D o2/\Rb W ⟨g,3,C⟩=D o3/\Rb W ⟨g,4,C⟩=D o4/\Rb W ⟨g,5,C⟩=D o5/\(∀ j,Rx W ⟨g,j,C⟩=I)/\g<W.heap.size:=by
 refine⟨?_,?_,?_,?_,?_,?_,fun j=>by simp[Rx,h],(blt h)⟩
 all_goals
  rw[Sw W g _ _ _ (0,0) h]
  rfl
theorem vQ {g:Prop} (f:g:=by
  obtain⟨L',h1,h2,h3⟩:=h
  exact⟨L',h1,(hg.only L).trans h2,fun b hb=>(h3 b hb).imp id (fun h=>RG hg.size h)⟩):g:=f
theorem gC.from (hg:fu W W1)(h:gC P m rows W1 L W2):gC P m rows W L W2:=by
 exact vQ
theorem gC.num {P:jt}{m m':fT}{rows:Q (Q Value)}{W W':U}{L:Q Nat}(h:gC P m rows W L W'){i:Nat}{v:Value}(hi:m'.pi=m.pi)
  (hrow:∀ a b c d e f g x y,(#[a,b,c,d,e,f,g,J Z m.gO,J Z P.E.args,J Z m.jp,x,y,H m.start]:Array Value).setIfInBounds i v=#[a,b,c,d,e,f,g,J Z m'.gO,J Z P.E.args,J Z m'.jp,x,y,H m'.start]) :
  gC P m' rows W L (W'.setCell ⟨P.g,i,C⟩ v):=by
 obtain⟨L',h1,h2,h3⟩:=h;obtain⟨g1,g2⟩:=h1.num (i:=i) (v:=v) hi hrow;exact⟨L',g1,h2.then g2 h3,h3⟩
theorem gC.fy {P:jt}{m:fT}{rows:Q (Q Value)}{W W' W2:U}{L:Q Nat}(h:gC P m rows W L W')(hg:fu W' W2):gC P m rows W L W2:=by
 obtain⟨L',h1,h2,h3⟩:=h;exact⟨L',h1.fy hg,h2.trans (hg.only L),h3⟩
theorem GF {E:fX} {d:Int} (hi:0<=i/\i<=100)(hd : -1000000<=d/\d<=1000000)(hf : -1000<=s.first/\s.first<=1000)(ha:0<=E.args/\E.args<=100):fE (pa E d s i st).1/\fE (pa E d s i st).2:=by
 unfold pa fE;simp only;refine⟨⟨?_,?_⟩,⟨?_,?_⟩⟩
 ·split <;> split <;> omega
 ·split <;> split <;> omega
 ·split <;> split <;> (try split) <;> omega
 ·split <;> split <;> (try split) <;> omega
theorem zso {A0 A1 A2:X RJ} {n0 n1 n2 c0 c1 c2:Nat} (h:jl P m rows W L)(hi:0<=i/\i<=100)(hd : -1000000<=m.jp/\m.jp<=1000000)(hf : -1000<=s.first/\s.first<=1000)(ha:0<=P.E.args/\P.E.args<=100) :
  RD prog 220 #[.pointer (D ⟨P.g,0,C⟩),.agg #[J Z s.f,G A0 n0 c0,G A1 n1 c1,J Z s.first,H s.UV,G A2 n2 c2],J Z i,H st] W fun r W'=>r=.returned (.tuple #[J Z (pa P.E m.jp s i st).1,J Z (pa P.E m.jp s i st).2])/\fu W W':=by
 obtain⟨Ai,ci,As,cs,z0,z1,z2,z5,z6,z7,z8,z9,a7,a8,a9,zf,zl⟩:=h.cells;unfold pa;clear h;obtain⟨ou,a4⟩:∃ b,s.UV=b:=⟨_,rfl⟩
 obtain⟨fr,a3⟩:∃ b,P.E.gY=b:=⟨_,rfl⟩
 rw[a4];rw[a3] at z5 |-;clear a4 a3;obtain⟨d,a1⟩:∃ d,m.jp=d:=⟨_,rfl⟩
 rw[a1] at z9 hd |-;obtain⟨a,a0⟩:∃ d,P.E.args=d:=⟨_,rfl⟩
 rw[a0] at z8 ha |-;obtain⟨f,a2⟩:∃ d,s.first=d:=⟨_,rfl⟩
 rw[a2] at hf |-;clear a1 a0 a2;have w1:Rg Z (a-i)=a-i:=iw;have w2:Rg Z (i-a)=i-a:=iw;have w3:Rg Z (f+i)=f+i:=iw;have w4:Rg Z (d-1)=d-1:=iw;have w5:Rg Z (d-1-(i-a))=d-1-(i-a):=iw;have w6:Rg Z (d-1-(f+i))=d-1-(f+i):=iw;have w7:Rg Z (d+(a-i))=d+(a-i):=iw;have w8:Rg Z (-1-(i-a)) = -1-(i-a):=iw;have w9:Rg Z (-1-(f+i)) = -1-(f+i):=iw;have a5:Rg Z (1+(a-i))=1+(a-i):=iw;have a6:Rg Z (d-1-0)=d-1-0:=iw;by_cases hia:i<a
 ·cases ou <;> cases fr <;> cases st
  all_goals
   go_enter func220,ntmps220
   go_wp2_with(fail)
   refine Rj ?_ rfl ⟨rfl,gG⟩
   simp[Rv,results220,go_sem,hia]
 ·cases ou <;> cases fr <;> cases st
  all_goals
   go_enter func220,ntmps220
   go_wp2_with(fail)
   refine Rj ?_ rfl ⟨rfl,gG⟩
   simp[Rv,results220,go_sem,hia]
theorem zxm (h:jl P m rows W L)(hc:(zr.sl 3).R W W.heap.size [G Ac s.io.length cc] s.io)(hcl:s.io.length<=1000)(hln:m.pi.length<=100000)
  (hi:0<=i/\i<=100) (hd : -1000000<=m.jp/\m.jp<=1000000) (hf : -1000<=s.first/\s.first<=1000) (ha:0<=P.E.args/\P.E.args<=100) (hl:fE line) :
  RD prog 217 #[.pointer (D ⟨P.g,0,C⟩),.agg #[J Z s.f,G Ac s.io.length cc,G Al nl cl,J Z s.first,H s.UV,G Av nv cv],J Z i,J Z line] W fun r W'=>r=.returned (.tuple #[])/\gC P (BH P.E m s i line) rows W L W':=by
 have hb:=GF (E:=P.E) (d:=m.jp) (s:=s) (i:=i) (st:=I) hi hd hf ha;have a2:fE m.jp:=⟨K9,K9⟩
 have hw:Rg Z (m.jp+1)=m.jp+1:=iw;go_enter func217,ntmps217;go_wp2_with(first | (go_at_call 220;(with_reducible refine(zso (st:=I) (h.fy gF) hi hd hf ha).mono ?_);rintro e w1 ⟨rfl,a1⟩;have a0:fu W w1:=fu.trans (b:=_) gF a1;obtain⟨b0,b1,b2,b3,b4,b5,_,_⟩:=mU (zj (Re W (F #[J Z s.f,G Ac s.io.length cc,G Al nl cl,J Z s.first,H s.UV,G Av nv cv] 253)) (fu.trans (b:=_) gF a1))) | (go_at_call 203;(with_reducible refine(ze6 (h.fy a0) (Ty.up _ hc a0) hcl hln hb.1 hb.2 hl a2).mono ?_);rintro e w2 ⟨rfl,h2⟩;have H2:=fh (gC.from a0 h2);obtain⟨L2,h3,_⟩:=h2;obtain⟨_,_,_,_,_,_,_,_,_,_,_,y9,_,_,_,yf,yl⟩:=h3.cells;replace y9:Rb w2 ⟨P.g,9,C⟩=D (J Z m.jp):=y9;clear h3));exact RI (v:=.tuple #[]) (by simp[Rv,results217,go_sem]) rfl ⟨rfl,H2.out.num rfl (fun _ _ _ _ _ _ _ _ _=>rfl)⟩
theorem zsu (h:jl P m rows W L)(hc:(zr.sl 3).R W W.heap.size [G Ad io.length cd] io)(hcl:io.length<=1000)(hln:m.pi.length<=100000)
  (hi:0<=i/\i<=100) (hd : -1000000<=m.jp/\m.jp<=1000000) (hf : -1000<=s.first/\s.first<=1000) (ha:0<=P.E.args/\P.E.args<=100) (hl:fE line) :
  RD prog 214 #[.pointer (D ⟨P.g,0,C⟩),.agg #[J Z s.f,G Ac s.io.length cc,G Al nl cl,J Z s.first,H s.UV,G Av nv cv],J Z i,J Z line,G Ad io.length cd] W fun r W'=>r=.returned (.tuple #[])/\gC P (ni P.E m s i line io) rows W L W':=by
 have hb:=GF (E:=P.E) (d:=m.jp) (s:=s) (i:=i) (st:=M) hi hd hf ha;have a2:fE m.jp:=⟨K9,K9⟩
 have hw:Rg Z (m.jp-1)=m.jp-1:=iw;go_enter func214,ntmps214;go_wp2_with(first | (go_at_call 220;(with_reducible refine(zso (st:=M) (h.fy gF) hi hd hf ha).mono ?_);rintro e w1 ⟨rfl,a1⟩;have a0:fu W w1:=fu.trans (b:=_) gF a1;obtain⟨b0,b1,b2,b3,b4,b5,_,_⟩:=mU (zj (Re W (F #[J Z s.f,G Ac s.io.length cc,G Al nl cl,J Z s.first,H s.UV,G Av nv cv] 253)) (fu.trans (b:=_) gF a1))) | (go_at_call 203;(with_reducible refine(ze6 (h.fy a0) (Ty.up _ hc a0) hcl hln hb.1 hb.2 hl a2).mono ?_);rintro e w2 ⟨rfl,h2⟩;have H2:=fh (gC.from a0 h2);obtain⟨L2,h3,_⟩:=h2;obtain⟨_,_,_,_,_,_,_,_,_,_,_,y9,_,_,_,yf,yl⟩:=h3.cells;replace y9:Rb w2 ⟨P.g,9,C⟩=D (J Z m.jp):=y9;clear h3));exact RI (v:=.tuple #[]) (by simp[Rv,results214,go_sem]) rfl ⟨rfl,H2.out.num rfl (fun _ _ _ _ _ _ _ _ _=>rfl)⟩
theorem zlA (h:jl P m rows W L)(hc:(zr.sl 3).R W W.heap.size [G Ad io.length cd] io)(hcl:io.length<=1000)(hln:m.pi.length<=100000)
  (hv:fE v) (hd : -1000000<=m.jp/\m.jp<=1000000) (hl:fE line) :
  RD prog 211 #[.pointer (D ⟨P.g,0,C⟩),J Z v,J Z line,G Ad io.length cd] W fun r W'=>r=.returned (.tuple #[])/\gC P (mg P.E m v line io) rows W L W':=by
 have a1:fE m.jp:=⟨K9,K9⟩
 have hw:Rg Z (m.jp+1)=m.jp+1:=iw;have a0:fE 0:=⟨K9,K9⟩
 go_enter func211,ntmps211;go_wp2_with(first | (go_at_call 203;(with_reducible refine(ze6 h hc hcl hln a0 hv hl a1).mono ?_);rintro e w2 ⟨rfl,h2⟩;have H2:=fh h2;obtain⟨L2,h3,_⟩:=h2;obtain⟨_,_,_,_,_,_,_,_,_,_,_,y9,_,_,_,yf,yl⟩:=h3.cells;replace y9:Rb w2 ⟨P.g,9,C⟩=D (J Z m.jp):=y9;clear h3));exact RI (v:=.tuple #[]) (by simp[Rv,results211,go_sem]) rfl ⟨rfl,H2.out.num rfl (fun _ _ _ _ _ _ _ _ _=>rfl)⟩
structure qA (P:jt):Prop where
 hp:(zQ.sl 99).R P.Y P.Y.heap.size [G P.A P.E.p.length P.c] P.E.p
 hs:∀ x∈P.E.p,x.fL.length<=1099511627776/\x.Expr.length<=1099511627776
 env:gR P.E
theorem qA.hl (h:qA P):P.E.p.length<=1099511627776:=RG h.env.pc.len qo
theorem qA.up {P:jt}{W:U}(h:qA P)(hg:fu P.Y W):(zQ.sl 99).R W W.heap.size [G P.A P.E.p.length P.c] P.E.p:=Ty.up _ h.hp hg
def iU (fs:Q Int)(rows:Q (Q Value)):Prop:=rows.map (fun r=>r[0]?)=fs.map (fun f=>D (J Z f))
theorem iU.len (h:iU fs rows):rows.length=fs.length:=by
 have:=Ta List.length h;simpa using this
theorem iU.at {fs:Q Int}{rows:Q (Q Value)}(h:iU fs rows){k:Nat}{r:Q Value}(hk:rows[k]?=D r):∃ f,fs[k]?=D f/\r[0]?=D (J Z f):=by
 have h1:=Ta (fun l=>l[k]?) h;simp only[UI,hk,TK] at h1;cases hf:fs[k]? with
 | none=>rw[hf] at h1;cases h1
 | some f=>
  rw[hf] at h1;exact⟨f,rfl,by simpa using h1⟩
theorem ON (hf:fs[k]?=D f)(h:(fs.take k).any (fun f=>decide (f=g))=I)(hfg:f≠g):(fs.take (k+1)).any (fun f=>decide (f=g))=I:=by
 rw[R8,hf,List.any_append,h];simp[hfg]
theorem Pd (hf:fs[k]?=D f)(hfg:f=g):fs.any (fun f=>decide (f=g))=M:=by
 rw[Ts];exact⟨f,Rt hf,by simp[hfg]⟩
theorem vO {g:Prop} (f:g:=by
  go_wp2_with(fail)
  exact Rj (v:=H I) (by simp[Rv,results218,go_sem]) rfl ⟨by rw[HF.out],hgA.trans gF⟩):g:=f
theorem zlO (h:jl P m rows W L)(hR:qA P)(hF:iU fs rows)(hln:m.pi.length<=100000)(hn:0<rows.length/\rows.length<=100)(hg:0<=g/\g<=1000) :
  RD prog 218 #[.pointer (D ⟨P.g,0,C⟩),J Z g] W fun r W'=>r=.returned (H (mZ P.E fs m g))/\fu W W':=by
 have ab:=h.iX.2.2.2.2;have hp:=hR.up ab;have hl:=hR.hl;have ai:=hR.env.pc.len;have ag:=hR.env.inl;obtain⟨e,he⟩:∃ e,iP P.E.p g=e:=⟨_,rfl⟩
 have aj : -1<=e/\e<=60:=by
  rcases wB P.E.p g with h1 | ⟨a,e',h1,h2,h3⟩
  ·omega
  ·have:=h3.len;omega
 have HE:=fh he;have aa:=hF.len;have a8:Hid (mZ P.E fs m g=(decide ((rows.length:Int)-1<P.E.inl) && (decide (e-g<=9) && (decide ((m.pi.length:Int)<200) && !(fs.any fun f=>decide (f=g)))))):=fh (by unfold mZ;rw[he,aa]);have ac:=fh aa;clear aa he;obtain⟨Ai,ci,Si,As,cs,Ss,hB,rfl⟩:=h;obtain⟨z0,z1,z2,z3,z4,z5,z6,z7,z8,z9,a2,a3,aq,zf,zl⟩:=nD hB.box;have an:Rg Z ((rows.length:Int)-1)=(rows.length:Int)-1:=iw;have ao:Rg Z (e-g)=e-g:=iw;by_cases c1:(rows.length:Int)-1<P.E.inl
 rotate_left
 ·have HF:Hid (mZ P.E fs m g=I):=fh (by rw[a8.out,Rk c1];rfl)
  have ad:P.E.inl<=(rows.length:Int)-1:=K9;clear c1;go_enter func218,ntmps218;go_upto_region 1 with(fail);go_quiet ((first | (fail)));go_wp2_with(fail);exact Rj (v:=H I) (by simp[Rv,results218,go_sem]) rfl ⟨by rw[HF.out],gG⟩
 have ad:¬ (P.E.inl<=(rows.length:Int)-1):=K9;obtain⟨d2,a4⟩:∃ b,decide (9<e-g)=b:=⟨_,rfl⟩
 obtain⟨d3,a5⟩:∃ b,decide (200<=(m.pi.length:Int))=b:=⟨_,rfl⟩
 go_enter func218,ntmps218;go_upto_region 1 with(fail);refine zX (fun w'=>Rb w' ⟨P.g,0,C⟩=D (G P.A P.E.p.length P.c)/\Rb w' ⟨P.g,2,C⟩=D (J Z P.E.inl)/\Rb w' ⟨P.g,10,C⟩=D (G Ai m.pi.length ci)/\Rb w' ⟨P.g,11,C⟩=D (G As rows.length cs)) 30 Fs (Rf (zc z0) (Rf (zc z2) (Rf (zc a2) (zc a3)))) (fun hH=>?_);have a9:fu W W.drew:=(fu.refl _).drew;clear z0 z2 a2 a3;generalize W.drew=wx at a9 hH |-;obtain⟨z0,z2,a2,a3⟩:=id hH;refine .tk 0 [1,2,3,4,5,11,12,22,23,30] hH ?_;refine .tk 1 [2,3,4,5,11,12,22,23,30] hH ?_;refine .tk 2 [3,4,5,11,12,22,23,30] hH ?_;refine .tk 3 [4,5,11,12,22,23,30] hH ?_;refine .tk 4 [5,11,12,22,23,30] hH ?_;refine .tk 5 [11,12,22,23,30] hH ?_;refine .tk 6 [7,8,9,10,11,12,22,23,30] hH ?_;refine .tk 7 [8,9,10,11,12,22,23,30] hH ?_;refine .tk 8 [9,10,11,12,22,23,30] hH ?_;refine .tk 9 [10,11,12,22,23,30] hH ?_;refine .tk 10 [11,12,22,23,30] hH ?_;refine .tk 11 [12,22,23,30] hH ?_;refine .tk 12 [22,23,30] hH ?_;refine .tk 13 [14,15,16,18,23,30] hH ?_;refine .tk 14 [15,16,18,23,30] hH ?_;refine .tk 15 [16,18,23,30] hH ?_;refine .tk 16 [18,23,30] hH ?_;refine .tk 17 [18,23,30] hH ?_;refine .tk 19 [20,21,22,23,30] hH ?_;refine fA.one (i:=18) Fs rfl (fun K hK=>?_);go_simp;go_at_call 160;(with_reducible refine(zbo (Ty.up _ hp a9) hl).mono ?_);rw[HE.out];rintro e v1 ⟨rfl,a6⟩;have a7:=a9.trans a6;have z0:=za a6 z0;have z2:=za a6 z2;have a2:=za a6 a2;have a3:=za a6 a3;refine hK.out _ _ (Rf z0 (Rf z2 (Rf a2 a3))) (fun hI=>?_);clear hK hH;have hH:=hI
 try simp only[lay]
 refine .tk 20 [21,22,23,30] hH ?_;refine .tk 21 [22,23,30] hH ?_;refine .tk 22 [23,30] hH ?_;refine .tk 23 [30] hH ?_;cases d2 with
 | true=>
  have HF:Hid (mZ P.E fs m g=I):=fh (by rw[a8.out,Rk (p:=e-g<=9) (by have:=TJ a4;omega)];simp);clear a4 a5;refine .sk 24 [25,26,27,28,29,30] hH ?_;refine .sk 25 [26,27,28,29,30] hH ?_;refine .sk 26 [27,28,29,30] hH ?_;refine .sk 27 [28,29,30] hH ?_;refine .sk 28 [29,30] hH ?_;refine .sk 29 [30] hH ?_;refine fA.last Fs rfl Fs (fun K hK=>?_);go_simp;refine hK.out _ _ ?_;clear hK
  try simp only[lay]
  have hgA:fu W _:=a7;exact vO
 | false=>
  refine .tk 24 [25,26,27,28,29,30] hH ?_;refine .tk 25 [26,27,28,29,30] hH ?_;refine .tk 26 [27,28,29,30] hH ?_;refine .tk 27 [28,29,30] hH ?_;refine .tk 28 [29,30] hH ?_;refine .tk 29 [30] hH ?_;refine fA.last Fs rfl Fs (fun K hK=>?_);go_simp;refine hK.out _ _ ?_;clear hK
  try simp only[lay]
  have hgA:fu W _:=a7;cases d3 with
  | true=>
   have HF:Hid (mZ P.E fs m g=I):=fh (by rw[a8.out,Rk (p:=(m.pi.length:Int)<200) (by have:=TJ a5;omega)];simp);clear a4 a5;exact vO
  | false=>
   have HF:Hid (mZ P.E fs m g = !(fs.any fun f=>decide (f=g))):=fh (by rw[a8.out,Rp c1,Rp (p:=e-g<=9) (by have:=UE a4;omega),Rp (p:=(m.pi.length:Int)<200) (by have:=UE a5;omega)];rfl);clear a4 a5 c1;go_wp2_with(fail);go_loopw [5] (fun z wr=>∃(k:Nat),z=J Z k/\k<=rows.length/\Hid (fu W wr)/\Hid ((fs.take k).any (fun f=>decide (f=g))=I)) (fun z _=>rows.length-(RS z).toNat)
   case atStart=>exact⟨0,rfl,Rl _,fh (hgA.trans gF),fh rfl⟩
   case round=>
    obtain⟨k,rfl,hk,hG,hA⟩:=hrel;have a1:=hG.out;have ap:=(nD (zj hB.box a1)).2.2.2.2.2.2.2.2.2.2.2.1;have yf:∀ j,Rx wr ⟨P.g,j,C⟩=I:=(nD (zj hB.box a1)).2.2.2.2.2.2.2.2.2.2.2.2.2.1;by_cases hlt:k<rows.length
    ·have hr:rows[k]?=D rows[k]:=Rn hlt
     obtain⟨f,hf,h0⟩:=hF.at hr;obtain⟨gs,rfl,al,ae,ak,am,a0,_⟩:=Je hB.nu hr;have x0:=za a1 (a0 0 _ h0);rw[Sr] at x0;have ah:(k:Int)<(rows.length:Int):=K9;have af:=Ri ae a1.size;by_cases hfg:f=g
     ·have hb:(f == g)=M:=RQ.2 hfg
      have HT:Hid (mZ P.E fs m g=I):=fh (by rw[HF.out,Pd hf hfg];rfl);clear hfg hr a0 h0;go_wp2_with(fail);exact Rj (v:=H I) (by simp[Rv,results218,go_sem]) rfl ⟨by rw[HT.out],a1.trans gF⟩
     ·have hb:(f == g)=I:=Rm.2 hfg
      have HA:=fh (ON hf hA.out hfg);clear hfg hr a0 h0;go_wp2_with(fail);go_roundw;exact⟨k+1,Ar,K9,fh (hG.out.trans gF),HA⟩;exact gM
    ·obtain rfl:k=rows.length:=K9
     have ah:¬ ((rows.length:Int)<(rows.length:Int)):=K9;have HT:Hid (mZ P.E fs m g=M):=fh (by rw[HF.out];have h1:=hA.out;rw[ac.out,SC] at h1;rw[h1];rfl);go_wp2_with(fail);exact Rj (v:=H M) (by simp[Rv,results218,go_sem]) rfl ⟨by rw[HT.out],a1.trans gF⟩
theorem wo {P:Program} {id:Nat} {Q8:Exit->Act->U->Prop} {a:Act} {l:Q Oper} (n:Nat)(hm:P.follows .mixedOrders=M)(hB:Region.lexTailB .any l.toArray n=M)
  (h:∀ w',fu w w'->wpStill P l.toArray w' (fun a'=>wpList P l.toArray Q8 (l.drop n) a' w') (l.take n) a):(Code.region id l.toArray M).wp P Q8 a w:=
 wp_region_still_tail n hm hB (h w.drew ((fu.refl _).drew))
theorem jl.fz (h:jl P m rows W L):(∀ j,Rx W ⟨P.g,j,C⟩=I)/\P.g<W.heap.size:=by
 obtain⟨Ai,ci,Si,As,cs,Ss,h,rfl⟩:=h;exact⟨(nD h.box).2.2.2.2.2.2.2.2.2.2.2.2.2.1,(blt h.box)⟩
def re:Ty (Int × Int):=zr.prod zr
theorem Dx:kB re:=oS zE zE
theorem OX:(prog.info? 264).map (fun i=>(i.zero,i.size,i.bytes))=D (D (.agg #[J Z 0,J Z 0]),2,16):=Fs
theorem DL:hU prog 261 264 re 16:=by
 obtain⟨i0,hi,a0,a1,a2⟩:=Tn OX;exact⟨underlying261,⟨i0,_,hi,a0,a1,a2,rfl⟩,qo⟩
theorem Qm {A:X RJ} {n c:Nat} {xs:Q (Int × Int)} {x:Int × Int} (h:Has (re.sl e) W [G A n c] xs S)(hx:xs[k]?=D x) :
  ∃ g,A=D ⟨g,0,C⟩/\g∈S/\g<W.heap.size/\Rb W ⟨g,k*2,C⟩=D (J Z x.1)/\Rb W ⟨g,k*2+1,C⟩=D (J Z x.2)/\fE x.1/\fE x.2:=by
 obtain⟨g,ec,Sc,rfl,a1,a2,_,_,_,hO,_,a0,_,_⟩:=qh h.1 h.2 hx;obtain⟨_,_,_,_,rfl,rfl,⟨rfl,b1,b2,rfl⟩,⟨rfl,b3,b4,rfl⟩⟩:=hO;exact⟨g,rfl,a1,a2,a0 0 _ rfl,a0 1 _ rfl,⟨b1,b2⟩,⟨b3,b4⟩⟩
theorem Lp {l:Q fM} {es:Q (Int × Int)} {e:Int × Int} (h:es[k]?=D e):nY l (es.take (k+1)) tgt v=if e.1=tgt then mD (nY l (es.take k) tgt v) e.2.toNat v else nY l (es.take k) tgt v:=by
 unfold nY;rw[R8,h,List.foldl_append];rfl
theorem zwt {es:Q (Int × Int)} {Ae:X RJ} {ce:Nat} {Se:Q Nat} (h:jl P m rows W L)(he:Has (re.sl 264) W [G Ae es.length ce] es Se)(hd:∀ b∈Se,b∉L)
  (hj:∀ e∈es,gV m.pi e.2) (hln:m.pi.length<=100000) (hel:es.length<=100000) :
  RD prog 210 #[.pointer (D ⟨P.g,0,C⟩),G Ae es.length ce,J Z tgt] W fun r W'=>r=.returned (.tuple #[])/\gC P (lK m es tgt) rows W L W':=by
 have h0:=h.iX.2.1;go_enter func210,ntmps210;go_wp2_with(fail);go_loopw [6] (fun z wr=>∃(k:Nat),z=J Z k/\k<=es.length/\Hid (gC P (m.iN (nY m.pi (es.take k) tgt m.pi.length)) rows W L wr)) (fun z _=>es.length-(RS z).toNat)
 case atStart=>exact⟨0,rfl,Rl _,fh (gC.refl h)⟩
 case round=>
  obtain⟨k,rfl,hk,hN⟩:=hrel;by_cases hlt:k<es.length
  ·have hx:es[k]?=D es[k]:=Rn hlt
   generalize es[k]=e at hx;have am:(k:Int)<(es.length:Int):=K9;obtain⟨L1,hS,hO,hL⟩:=hN.out;obtain⟨g2,ag,aj,a6,y0,y1,b0,b1⟩:=Qm (he.fJ hO hd) hx;have hP:=Lp (l:=m.pi) (tgt:=tgt) (v:=m.pi.length) hx;obtain⟨a8,a0⟩:=tO (es.take k) m.pi tgt m.pi.length;have aa:=a8.jump e.2 (hj e (Rt hx));obtain⟨l,hl⟩:∃ l,nY m.pi (es.take k) tgt m.pi.length=l:=⟨_,rfl⟩
   rw[hl] at hP hS a0 aa;obtain⟨j,x,a7,a4,_⟩:=aa;obtain⟨gi,ci,a3,ak,al,ai,ah,a1⟩:=hS.arg (m:=m.iN l) a4;obtain⟨zf,zl⟩:=hS.fz;obtain⟨n,hn⟩:∃ n,m.pi.length=n:=⟨_,rfl⟩
   have a3:Rb wr ⟨P.g,10,C⟩=D (G (D ⟨gi,0,C⟩) n ci):=by rw[a3];simp only[fT.iN,a0,hn]
   have ar:j<n:=by have:=(Rd.1 a4).1;omega
   have aq:(j:Int)<(n:Int):=K9;rw[hn] at hP hln a0;have an:fE (n:Int):=⟨K9,K9⟩
   subst ag;by_cases hto:e.1=tgt
   ·have hb:(e.1 == tgt)=M:=RQ.2 hto
    rw[a7] at y1;have HS:=fh hS;have HO:=fh (show fx L W wr from hO);have HL:=fh hL;have HP:=fh hP;have ae:=fh a4;have af:=fh hto;have ac:=fh a7;have ad:=fh a0;clear hto hP a1 hx hN hS hO he hd hj hl a8 hL a4 a7 ah;go_upto_region 4 with(fail);refine wo 17 Fs Fs (fun wx hgx=>?_);have a5:=HS.out.fy hgx;obtain⟨a9,ap,ab,aw,_,av,au,a2⟩:=a5.arg (m:=m.iN l) ae.out;obtain⟨xf,xl⟩:=a5.fz
    obtain rfl:a9=gi:=by
     have h9:=za hgx a3;rw[ab] at h9;simp only[RT,SY,U7] at h9;exact h9.1.1
    have ao:=za hgx a3;have ax:=za hgx y0;have ay:=za hgx y1;obtain⟨p1,p2⟩:=a2 n an
    have HN:Hid (gC P (m.iN (nY m.pi (es.take (k+1)) tgt m.pi.length)) rows W L (wx.setCell ⟨a9,j*7+1,C⟩ (J Z (n:Int)))):=fh (by
     rw[hn,HP.out,Rs af.out,ac.out,Ry]
     exact⟨L1,p1,(HO.out.trans (hgx.only L)).then p2 HL.out,HL.out⟩)
    clear a3 y0 y1 zf zl a5 ab a2 p1 p2 ai ak a6;simp only[RZ,SH,Sm,Sx]
    repeat still_step
    refine Tj ?_;go_wp2_with(fail);go_roundw;exact⟨k+1,Ar,K9,HN⟩;exact gM
   ·have hb:(e.1 == tgt)=I:=Rm.2 hto
    have HN:Hid (gC P (m.iN (nY m.pi (es.take (k+1)) tgt m.pi.length)) rows W L wr):=fh (by
     rw[hn,hP,Ro hto,<-hl]
     exact hN.out)
    clear hto hP a1 hx hN hS hO he hd hj hl a8;go_wp2_with(fail);go_roundw;exact⟨k+1,Ar,K9,HN⟩;exact gM
  ·obtain rfl:k=es.length:=K9
   have am:¬ ((es.length:Int)<(es.length:Int)):=K9;have HN:Hid (gC P (lK m es tgt) rows W L wr):=fh (by have h9:=hN.out;rw[SC] at h9;exact h9);go_wp2_with(fail);exact RI (v:=.tuple #[]) (by simp[Rv,results210,go_sem]) rfl ⟨rfl,HN.out⟩
theorem jl.row (h:jl P m rows W L){k:Nat}{r:Q Value}(hr:rows[k]?=D r) :
  ∃ gs cs,Rb W ⟨P.g,11,C⟩=D (G (D ⟨gs,0,C⟩) rows.length cs)/\gs∈L/\gs<W.heap.size/\gs≠P.g/\(∀ j,Rx W ⟨gs,j,C⟩=I)/\r.length=6/\(∀ j u,r[j]?=D u->Rb W ⟨gs,k*6+j,C⟩=D u)/\
   ∀ j u,j<6->u.oneCell'=M->jl P m (rows.set k (r.set j u)) (W.setCell ⟨gs,k*6+j,C⟩ u) L/\fx L W (W.setCell ⟨gs,k*6+j,C⟩ u):=by
 obtain⟨Ai,ci,Si,As,cs,Ss,h,rfl⟩:=h;obtain⟨gs,rfl,a2,a4,a3,a5,a0,a1⟩:=Je h.nu hr;refine⟨gs,cs,(nD h.box).2.2.2.2.2.2.2.2.2.2.2.1,by simp[a2],a4,fun e=>h.gn.2 (e ▸ a2),a3,a5,a0,fun j u hj hu=>?_⟩;obtain⟨h1,h2⟩:=a1 j u hj hu;refine⟨⟨Ai,ci,Si,D ⟨gs,0,C⟩,cs,Ss,⟨?_,h.ia.fJ h2 (fun b hb hm=>h.jj b hb hm),by rw[RP];exact h1,h.jj,h.gn,h2.fy h.fy h.low.2.2,h.low⟩,rfl⟩,h2.mono (fun b hb=>by simp[hb])⟩;rw[RP];exact(h2.block P.g (blt h.box) h.gn.2).trans h.box
theorem jl.fJ {P:jt}{m:fT}{rows:Q (Q Value)}{W W':U}{L S:Q Nat}(h:jl P m rows W L)(ho:fx S W W')(hS:∀ b∈S,b∉L/\P.Y.heap.size<=b):jl P m rows W' L:=by
 obtain⟨Ai,ci,Si,As,cs,Ss,h,rfl⟩:=h;exact⟨Ai,ci,Si,As,cs,Ss,h.fJ ho (fun b hb=>⟨fun e=>(hS b hb).1 (by simp[e]),fun hm=>(hS b hb).1 (by simp[hm]),fun hm=>(hS b hb).1 (by simp[hm]),(hS b hb).2⟩),rfl⟩
structure iM where
 Ac:X RJ
 cc:Nat
 Sc:Q Nat
 Al:X RJ
 cl:Nat
 Sl:Q Nat
def j7 (s:fH)(T:iM)(Av:X RJ)(cv:Nat):Q Value:=[J Z s.f,G T.Ac s.io.length T.cc,G T.Al s.un.length T.cl,J Z s.first,H s.UV,G Av s.ut.length cv]
structure ko (P:jt)(T:iM)(m:fT)(R0:Q (Q Value))(s:fH)(W:U)(Av:X RJ)(cv:Nat)(Sv Lm:Q Nat):Prop where
 st:jl P m (R0++[j7 s T Av cv]) W Lm
 io:Has (zr.sl 3) W [G T.Ac s.io.length T.cc] s.io T.Sc
 un:Has (iI.sl 9) W [G T.Al s.un.length T.cl] s.un T.Sl
 ut:Has (zr.sl 3) W [G Av s.ut.length cv] s.ut Sv
 dc:∀ b∈T.Sc,b∉Lm/\b∉Sv
 dl:∀ b∈T.Sl,b∉Lm/\b∉Sv
 dv:∀ b∈Sv,b∉Lm
 lv:∀ b∈Sv,P.Y.heap.size<=b
def nN (P:jt)(T:iM)(m:fT)(R0:Q (Q Value))(s:fH)(W:U)(L:Q Nat):Prop:=∃ Av cv Sv Lm,ko P T m R0 s W Av cv Sv Lm/\L=Lm++Sv
def gg (P:jt)(T:iM)(m':fT)(R0:Q (Q Value))(s':fH)(W:U)(L:Q Nat)(W':U):Prop:=∃ L',nN P T m' R0 s' W' L'/\fx L W W'/\∀ b∈L',b∈L∨W.heap.size<=b
theorem xe {L':Q Nat} (h:∀ b∈S,b∉L)(hl:∀ b∈S,b<W.heap.size)(hL:∀ b∈L',b∈L∨W.heap.size<=b):∀ b∈S,b∉L':=fun b hb hm=>by
 rcases hL b hm with h1 | h1
 ·exact h b hb h1
 ·have:=hl b hb;omega
theorem ko.fy {P:jt}{T:iM}{m:fT}{R0:Q (Q Value)}{s:fH}{W W':U}{Av:X RJ}{cv:Nat}{Sv Lm:Q Nat}(h:ko P T m R0 s W Av cv Sv Lm)(hg:fu W W'):ko P T m R0 s W' Av cv Sv Lm:=
 ⟨h.st.fy hg,h.io.fy hg,h.un.fy hg,h.ut.fy hg,h.dc,h.dl,h.dv,h.lv⟩
theorem nN.fy {P:jt}{T:iM}{m:fT}{R0:Q (Q Value)}{s:fH}{W W':U}{L:Q Nat}(h:nN P T m R0 s W L)(hg:fu W W'):nN P T m R0 s W' L:=by
 obtain⟨Av,cv,Sv,Lm,h,rfl⟩:=h;exact⟨Av,cv,Sv,Lm,h.fy hg,rfl⟩
theorem gg.refl {P:jt}{T:iM}{m:fT}{R0:Q (Q Value)}{s:fH}{W:U}{L:Q Nat}(h:nN P T m R0 s W L):gg P T m R0 s W L W:=⟨L,h,fx.refl _ _,fun _ hb=>.inl hb⟩
theorem gg.fy {P:jt}{T:iM}{m:fT}{R0:Q (Q Value)}{s:fH}{W W' W2:U}{L:Q Nat}(h:gg P T m R0 s W L W')(hg:fu W' W2):gg P T m R0 s W L W2:=by
 obtain⟨L',h1,h2,h3⟩:=h;exact⟨L',h1.fy hg,h2.trans (hg.only L),h3⟩
theorem gg.from {T:iM} (hg:fu W W1)(h:gg P T m R0 s W1 L W2):gg P T m R0 s W L W2:=by
 exact vQ
theorem gg.trans {T:iM} {m2:fT} {s2:fH} {L1:Q Nat} (ho:fx L W W1)(hl:∀ b∈L1,b∈L∨W.heap.size<=b)(k:gg P T m2 R0 s2 W1 L1 W2):gg P T m2 R0 s2 W L W2:=by
 exact vG
theorem ko.next {T:iM} (h:ko P T m R0 s W Av cv Sv Lm)(k:gC P m' (R0++[j7 s T Av cv]) W Lm W'):gg P T m' R0 s W (Lm++Sv) W':=by
 obtain⟨L',h1,h2,h3⟩:=k;refine⟨L'++Sv,⟨Av,cv,Sv,L',⟨h1,h.io.fJ h2 (fun b hb=>(h.dc b hb).1),h.un.fJ h2 (fun b hb=>(h.dl b hb).1),h.ut.fJ h2 h.dv,fun b hb=>⟨xe (fun b hb=>(h.dc b hb).1) h.io.lt h3 b hb,(h.dc b hb).2⟩,fun b hb=>⟨xe (fun b hb=>(h.dl b hb).1) h.un.lt h3 b hb,(h.dl b hb).2⟩,xe h.dv h.ut.lt h3,h.lv⟩,rfl⟩,h2.mono (fun b hb=>RH _ hb),fun b hb=>?_⟩;rcases Rr.1 hb with hb | hb
 ·exact(h3 b hb).imp (fun h=>RH _ h) id
 ·exact .inl (RK _ hb)
theorem ko.num {P:jt}{T:iM}{m m':fT}{R0:Q (Q Value)}{s:fH}{W:U}{Av:X RJ}{cv:Nat}{Sv Lm:Q Nat}(h:ko P T m R0 s W Av cv Sv Lm){i:Nat}{v:Value}(hi:m'.pi=m.pi)
  (hrow:∀ a b c d e f g x y,(#[a,b,c,d,e,f,g,J Z m.gO,J Z P.E.args,J Z m.jp,x,y,H m.start]:Array Value).setIfInBounds i v=#[a,b,c,d,e,f,g,J Z m'.gO,J Z P.E.args,J Z m'.jp,x,y,H m'.start]) :
  gg P T m' R0 s W (Lm++Sv) (W.setCell ⟨P.g,i,C⟩ v):=h.next ((gC.refl h.st).num hi hrow)
theorem gg.num {P:jt}{T:iM}{m m':fT}{R0:Q (Q Value)}{s:fH}{W W':U}{L:Q Nat}(h:gg P T m R0 s W L W'){i:Nat}{v:Value}(hi:m'.pi=m.pi)
  (hrow:∀ a b c d e f g x y,(#[a,b,c,d,e,f,g,J Z m.gO,J Z P.E.args,J Z m.jp,x,y,H m.start]:Array Value).setIfInBounds i v=#[a,b,c,d,e,f,g,J Z m'.gO,J Z P.E.args,J Z m'.jp,x,y,H m'.start]) :
  gg P T m' R0 s W L (W'.setCell ⟨P.g,i,C⟩ v):=by
 obtain⟨L',⟨Av,cv,Sv,Lm,h,rfl⟩,h2,h3⟩:=h;exact gg.trans h2 h3 (h.num hi hrow)
theorem ko.leaf {T:iM} {lv:Q Int} {gs:Nat} (h:ko P T m R0 s W Av cv Sv Lm)(hon:fx Sv W W')(hH:Has (zr.sl 3) W' [G A' lv.length c'] lv S')(hS:∀ b∈S',b∈Sv∨W.heap.size<=b)
  (hz:∃ cs,Rb W' ⟨P.g,11,C⟩=D (G (D ⟨gs,0,C⟩) (R0.length+1) cs)) :
  gg P T m R0 ⟨s.f,s.io,s.un,s.first,s.UV,lv⟩ W (Lm++Sv) (W'.setCell ⟨gs,R0.length*6+5,C⟩ (G A' lv.length c')):=by
 obtain⟨cs,hz⟩:=hz;have h1:=h.st.fJ hon (fun b hb=>⟨h.dv b hb,h.lv b hb⟩);have hr:(R0++[j7 s T Av cv])[R0.length]?=D (j7 s T Av cv):=by rw[Sd (Ru _),St];rfl
 obtain⟨a5,a7,a6,a9,aa,ab,a8,ad,a0,a3⟩:=h1.row hr
 obtain rfl:a5=gs:=by
  rw[a6] at hz;simp only[RT,SY,U7] at hz;exact hz.1.1
 obtain⟨p1,p2⟩:=a3 5 (G A' lv.length c') (by decide) rfl
 have a4:(R0++[j7 s T Av cv]).set R0.length ((j7 s T Av cv).set 5 (G A' lv.length c'))=R0++[j7 ⟨s.f,s.io,s.un,s.first,s.UV,lv⟩ T A' c']:=by
  rw[UL _ _ (Ru _),St];rfl
 rw[a4] at p1;have ac:=h1.iX;have hc:=(h.io.fJ hon (fun b hb=>(h.dc b hb).2)).fJ p2 (fun b hb=>(h.dc b hb).1);have hl:=(h.un.fJ hon (fun b hb=>(h.dl b hb).2)).fJ p2 (fun b hb=>(h.dl b hb).1);have a1:=h.io.lt;have a2:=h.un.lt
 have hd:∀ b∈S',b∉Lm:=fun b hb hm=>by
  rcases hS b hb with h2 | h2
  ·exact h.dv b h2 hm
  ·have:=h.st.iX.2.2.1 b hm;omega
 refine⟨Lm++S',⟨A',c',S',Lm,⟨p1,hc,hl,hH.fJ p2 hd,fun b hb=>⟨(h.dc b hb).1,fun hm=>?_⟩,fun b hb=>⟨(h.dl b hb).1,fun hm=>?_⟩,hd,fun b hb=>?_⟩,rfl⟩,?_,fun b hb=>?_⟩
 ·rcases hS b hm with h2 | h2
  ·exact(h.dc b hb).2 h2
  ·have:=a1 b hb;omega
 ·rcases hS b hm with h2 | h2
  ·exact(h.dl b hb).2 h2
  ·have:=a2 b hb;omega
 ·rcases hS b hb with h2 | h2
  ·exact h.lv b h2
  ·have:=h.st.iX.2.2.2.2.size;omega
 ·exact(hon.mono (fun b hb=>RK _ hb)).trans (p2.mono (fun b hb=>RH _ hb))
 ·rcases Rr.1 hb with hb | hb
  ·exact .inl (RH _ hb)
  ·exact(hS b hb).imp (fun h=>RK _ h) id
theorem ko.row {P:jt}{T:iM}{m:fT}{R0:Q (Q Value)}{s:fH}{W:U}{Av:X RJ}{cv:Nat}{Sv Lm:Q Nat}(h:ko P T m R0 s W Av cv Sv Lm):∃ gs cs,
  Rb W ⟨P.g,11,C⟩=D (G (D ⟨gs,0,C⟩) (R0.length+1) cs)/\Rb W ⟨gs,R0.length*6,C⟩=D (J Z s.f)/\Rb W ⟨gs,R0.length*6+1,C⟩=D (G T.Ac s.io.length T.cc)/\Rb W ⟨gs,R0.length*6+2,C⟩=D (G T.Al s.un.length T.cl)/\Rb W ⟨gs,R0.length*6+3,C⟩=D (J Z s.first)/\Rb W ⟨gs,R0.length*6+4,C⟩=D (H s.UV)/\Rb W ⟨gs,R0.length*6+5,C⟩=D (G Av s.ut.length cv)/\gs<W.heap.size/\gs≠P.g/\(∀ j,Rx W ⟨gs,j,C⟩=I)/\gs∈Lm:=by
 have hr:(R0++[j7 s T Av cv])[R0.length]?=D (j7 s T Av cv):=by rw[Sd (Ru _),St];rfl
 obtain⟨gs,cs,a1,a3,a4,a5,a2,a7,a0,a6⟩:=h.st.row hr;rw[Rh] at a1;exact⟨gs,cs,a1,a0 0 _ rfl,a0 1 _ rfl,a0 2 _ rfl,a0 3 _ rfl,a0 4 _ rfl,a0 5 _ rfl,a4,a5,a2,a3⟩
end Go.Proofs.YthgbglbaemelhaaGreat
