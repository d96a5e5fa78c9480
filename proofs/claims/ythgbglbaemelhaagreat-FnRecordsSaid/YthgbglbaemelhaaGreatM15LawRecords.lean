/-
  PART.
-/
import Derived.Test.YthgbglbaemelhaaGreatM13LawRecords
set_option linter.unusedVariables false
set_option linter.unusedSimpArgs false
set_option maxRecDepth 100000
set_option maxHeartbeats 8000000
namespace Go.Proofs.YthgbglbaemelhaaGreat
open Value renaming slice->J,int->C,bool->X
open IntKind renaming i64->Z,wrap->Vl
open Option renaming none->I,some->F,getD_some->WM,bind_some->Xc,map_some->Xp
open Obj renaming cells->U
open Bool renaming false->M,true->H
open Go renaming World->V,results->VF,Calls->VK,Addr->VQ,TypeId->Wl,Ending->Z9,yielded->Xb
open World renaming cell?->Vg,frozen?->VE
open _root_.Int renaming toNat_natCast->Vy,reducePow->YU
open List renaming replicate->VP,getElem?_cons_zero->VU,nil_append->Wo,getElem?_cons_succ->Ww,take_succ_cons->Wz,take_zero->Xk,cons_append->Xl,sum_cons->Xz,set_cons_zero->Zt,set_cons_succ->Zu
open RowKit renaming intOf->Wj,wrap64->Xr
open _root_.Nat renaming add_zero->Wk,mul_zero->YN
open Region renaming wanted->V6,ready->Wv,noSelect->XV,Mode->XY,free->YI
open Tryz
open Go.RowKit
variable {A A0 A1 A2 A3 Ao:N VQ}{B:D (Nat × Obj)}{Fp a b0 b1 st th v:Int}{L S0 S3:D Nat}{Ve c c0 c1 c2 c3 co f gp j k t:Nat}{W W1 W2 Y w:V}{b:gP}{cs:D Value}{es:D Int}{fr:D (Nat × Nat)}{l:D fX}{m m':fF}{moved:Bool}{p:D fB}{s:gQ}{x:gB}
theorem je.make {row:Array Value} (hrow:row=#[C Z m.Pc,C Z m.Sp,C Z m.Fp,J A m.fK.length c,J Ao m.iE.length co,C Z m.fY,C Z m.Value,X M])
  (hF:gH lQ W1 W2 [C Z m.Pc,C Z m.Sp,C Z m.Fp,J A m.fK.length c,J Ao m.iE.length co,C Z m.fY,C Z m.Value] m)
  (hg2:fy W1 W2) (hB:∀ p∈B,W1.heap[p.1]?=F p.2) (hk:p8 Ve m) :
  je B W1 (W2.alloc (U row 140)) Ve W2.heap.size M m:=by
 obtain⟨S9,hO,hN,hL⟩:=hF;have a5:=Ty.jQ _ hO;obtain⟨A',c',S,a6,a7,So,a0,rfl,_,_,_,h3,h4,_,_⟩:=CM hO;injection a0 with _ a0
 injection a0 with _ a0
 injection a0 with _ a0
 injection a0 with e3 a0
 injection a0 with e4 _
 injection e3 with a1 a2 a3
 injection e4 with b1 b2 b3
 subst a1 a3 b1 b3;rw[Wb] at hN;obtain⟨n1,n2,n3⟩:=hN;have a4:fy W2 (W2.alloc (U row 140)):=(fy.refl _).alloc _;have a8:=hg2.size;refine⟨A,c,S,Ao,co,So,?_,Has.fH ⟨h3,n1⟩ a4,Has.fH ⟨h4,n2⟩ a4,fun b hb hm=>n3 b hb b hm rfl,⟨fun hm=>?_,fun hm=>?_⟩,hk,hg2.trans a4,fh,fun b hb=>?_,fun b hb=>?_,fun p hp=>?_⟩
 ·rw[<-hrow]
  exact Vj W2 _
 ·have:=a5 _ (VN _ hm);omega
 ·have:=a5 _ (VV _ hm);omega
 ·have:=hL b (VN _ hb);omega
 ·have:=hL b (VV _ hb);omega
 ·have h1:=hB p hp
  have hl:=(blt h1)
  refine⟨zj (zj h1 hg2) a4,fh,fun hm=>?_,fun hm=>?_⟩
  ·have:=hL _ (VN _ hm);omega
  ·have:=hL _ (VV _ hm);omega
theorem je.all {gc:Nat} {bad:Bool} (h:je B Y W Ve gc bad m):∃ A c Ao co S,
  W.heap[gc]?=F (U #[C Z m.Pc,C Z m.Sp,C Z m.Fp,J A m.fK.length c,J Ao m.iE.length co,C Z m.fY,C Z m.Value,X bad] 140 (0,0))/\p8 Ve m/\
  Has lQ W [C Z m.Pc,C Z m.Sp,C Z m.Fp,J A m.fK.length c,J Ao m.iE.length co,C Z m.fY,C Z m.Value] m S/\(∀ b∈S,Y.heap.size<=b)/\∀ p∈B,p.1∉S:=by
 obtain⟨A,c,S,Ao,co,So,h⟩:=h;refine⟨A,c,Ao,co,S++So,h.ly,h.ok,⟨Co h.ok.pc h.ok.sp h.ok.fp h.stack.1 h.out.1 h.ok.st h.ok.va,Wb.2 ⟨h.stack.2,h.out.2,fun a ha b hb he=>h.lG a ha (he ▸ hb)⟩⟩,fun b hb=>?_,fun p hp hm=>?_⟩
 ·rcases VA.1 hb with hb | hb
  ·exact h.ls b hb
  ·exact h.lo b hb
 ·obtain⟨_,_,h4,h5⟩:=h.kb p hp
  rcases VA.1 hm with hb | hb
  ·exact h4 hb
  ·exact h5 hb
theorem Ev {v:Value} (hF:gH lQ w W [C Z m.Pc,C Z m.Sp,C Z m.Fp,J A m.fK.length c,J Ao m.iE.length co,v,C Z m.Value] m) :
  gH lQ w W [C Z m.Pc,C Z m.Sp,C Z m.Fp,J A m.fK.length c,J Ao m.iE.length co,C Z 2,C Z m.Value] { m with fY:=2 }:=by
 obtain⟨S9,hO,hN,hL⟩:=hF;obtain⟨A',c',S,a4,a5,So,a0,rfl,p0,p1,p2,h3,h4,_,p6⟩:=CM hO;injection a0 with _ a0
 injection a0 with _ a0
 injection a0 with _ a0
 injection a0 with e3 a0
 injection a0 with e4 _
 injection e3 with a1 a2 a3
 injection e4 with b1 b2 b3
 subst a1 a3 b1 b3;have i2:fQ 2:=⟨gv,gv⟩
 exact⟨_,Co (x:={ m with fY:=2 }) p0 p1 p2 h3 h4 i2 p6,hN,hL⟩
theorem Ik (s:gQ)(m:fF):mC s m=if (kE s m.Pc).ok=H then (((zR s.fm { m with Pc:=m.Pc+((kE s m.Pc).n:Int) } (kE s m.Pc).code (kE s m.Pc).arg).bind oW).getD { m with fY:=2 }) else { m with fY:=2 }:=by
 unfold mC kE;simp only;by_cases h:(loc s m.Pc).1<0
 ·rw[Vs h,Vs h]
  rfl
 ·rw[Vo h,Vo h]
  cases s.fw[(loc s m.Pc).1.toNat]? with
  | none=>rfl
  | some i=>rfl
theorem Qo (hst:∀ x∈s.fw,x.Code.size<=1099511627776)(hbs:∀ b∈s.fD,gE b 1 1000000=H)(h:(kE s a).ok=H) :
  (1<=a/\a<=1099512627776)/\(kE s a).n<=5/\(0<=(kE s a).code/\(kE s a).code<=17)/\Md (kE s a).code (kE s a).arg/\fQ (kE s a).arg:=by
 rcases Js s.fw s.fD a 0 with h1 | ⟨j,y,b,hj,hb,h1,a0,a1⟩
 ·have h2:kE s a=⟨0,0,0,M⟩:=by unfold kE loc;rw[h1];rfl
  rw[h2] at h;cases h
 ·rw[VJ] at h1
  have h2:kE s a=ku y.Code (a-b):=by
   unfold kE loc;rw[h1];simp only;rw[Vo fh,Vy,hj]
  rw[h2] at h |-;have a3:=hst y (Vx hj);have a2:=zr.1 (hbs b (Vx hb));have ho:=Au (s:=y.Code) (a:=a-b) rfl h;have ha:=Fl (s:=y.Code) (a:=a-b) rfl;exact⟨⟨fh,fh⟩,fh,⟨ho.2.2.2.2.1,ho.2.2.2.2.2⟩,Sz rfl,⟨fh,fh⟩⟩
theorem Uv (w:V)(ca cb cc:Array Value)(ta tb tc:Wl):(((w.alloc (U ca ta)).alloc (U cb tb)).alloc (U cc tc)).heap[w.heap.size]?=F (U ca ta (0,0))/\(((w.alloc (U ca ta)).alloc (U cb tb)).alloc (U cc tc)).heap[w.heap.size+1]?=F (U cb tb (0,0))/\
  (((w.alloc (U ca ta)).alloc (U cb tb)).alloc (U cc tc)).heap[w.heap.size+1+1]?=F (U cc tc (0,0)):=by
 refine⟨zj (Vj w _) gF,?_,?_⟩
 ·have h:=Vj (w.alloc (U ca ta)) (U cb tb)
  rw[VH] at h;exact zj h gF
 ·have h:=Vj ((w.alloc (U ca ta)).alloc (U cb tb)) (U cc tc)
  rw[VH,VH] at h;exact h
theorem yV {g:Prop} (f:g:=by
  obtain⟨v0,v1,v2,v3,v4,v5,v6,vf,vl⟩:=jb eM
  obtain⟨u0,u1,u2,u3,u4,u5,u6,uf,ul⟩:=jb hz
  go_wp2_with(fail)
  have h9:=qT hz (C Z m.Pc) (C Z m.Sp) (C Z m.Fp) (J C0 m.fK.length e0) (J C1 m.iE.length e1) (C Z 2) (C Z m.Value)
  generalize (((((((w9.setCell _ _).setCell _ _).setCell _ _).setCell _ _).setCell _ _).setCell _ _).setCell _ _)=Vb at h9 |-
  obtain⟨r0,r1,r2,r3,r4,r5,r6,_,_⟩:=jb h9.1
  have hGX:=h9.2.fH hGw (fun b hb'=>by simp at hb';omega)
  have hF9:=hHs.gu h9.2 (fun b hb' hm=>by simp at hm;have h1:=hlS _ hb';omega)
  rw[HS.out]
  exact Vr (v:=.agg #[C Z m.Pc,C Z m.Sp,C Z m.Fp,J C0 m.fK.length e0,J C1 m.iE.length e1,C Z 2,C Z m.Value]) (by simp[VF,results44,go_sem,r0,r1,r2,r3,r4,r5,r6]) rfl ⟨⟨C0,e0,C1,e1,rfl,hF9.fresh (fun b hb'=>by have h1:=hlS b hb';omega),hGX⟩,HKS.out⟩):g:=f
theorem zxm {A4:N VQ} {c4:Nat} (h0:(jS.sl 103).R w w.heap.size [J A0 s.fw.length c0] s.fw)(h1:(zv.sl 3).R w w.heap.size [J A1 s.fD.length c1] s.fD)
  (h2:(zv.sl 3).R w w.heap.size [J A2 s.fm.length c2] s.fm) (h3:(zv.sl 3).R w w.heap.size [J A3 m.fK.length c3] m.fK) (h4:(zv.sl 3).R w w.heap.size [J A4 m.iE.length c4] m.iE)
  (hl:s.fw.length=s.fD.length) (hst:∀ x∈s.fw,x.Code.size<=1099511627776) (hbs:∀ b∈s.fD,gE b 1 1000000=H) (hk:p8 Ve m) (hN:Ve<=1099511620000) (hm0:m.fY=0) :
  VK prog 44 #[.agg #[J A0 s.fw.length c0,J A1 s.fD.length c1,J A2 s.fm.length c2],.agg #[C Z m.Pc,C Z m.Sp,C Z m.Fp,J A3 m.fK.length c3,J A4 m.iE.length c4,C Z m.fY,C Z m.Value]] w (fun r w'=>Ho (mC s m) w r w'/\p8 (Ve+1) (mC s m)):=by
 obtain⟨_,_,ba,be,bg⟩:=mQ h2;injection ba with e1 e2 e3
 subst e1 e3;clear e2;have aj:fy w (((w.alloc (U #[J A0 s.fw.length c0,J A1 s.fD.length c1,J A2 s.fm.length c2] 28)).alloc (U #[C Z m.Pc,C Z m.Sp,C Z m.Fp,J A3 m.fK.length c3,J A4 m.iE.length c4,C Z 0,C Z m.Value] 41)).alloc (U #[C Z 0,C Z 0,C Z 0,J I 0 0,J I 0 0,C Z 0,C Z 0] 41)):=gG;obtain⟨ax,ay,aK⟩:=Uv w #[J A0 s.fw.length c0,J A1 s.fD.length c1,J A2 s.fm.length c2] #[C Z m.Pc,C Z m.Sp,C Z m.Fp,J A3 m.fK.length c3,J A4 m.iE.length c4,C Z 0,C Z m.Value] #[C Z 0,C Z 0,C Z 0,J I 0 0,J I 0 0,C Z 0,C Z 0] 28 41 41;have k0:=Ty.up _ h0 aj;have k1:=Ty.up _ h1 aj;have k2:=Ty.up _ h2 aj;have k3:=Ty.up _ h3 aj;have k4:=Ty.up _ h4 aj;have b4:=fk hl;have b5:=fk hst;have b3:=fk hbs;have HKS:=fk hk.stop;have HM:=fk hk;have aB:=fk hm0;have aq:=hk.pc;have i1:fQ 1:=⟨gv,gv⟩
 have ak:mM m<=1099511627776:=by
  have h1:=hk.len;have h2:=hk.out;unfold mM;omega
 have aC:=fk ak;obtain⟨r,hr⟩:∃ r,kE s m.Pc=r:=⟨_,rfl⟩
 have am:=Ik s m;have ap:=Qo (a:=m.Pc) hst hbs;rw[hr] at am ap;have HR:=fk hr;obtain⟨bd,aO⟩:∃ q,r.ok=q:=⟨_,rfl⟩
 rw[aO] at am ap;have a4:=zdP (x:=m) aq hk.sp hk.fp k3 k4 hk.st hk.va ak;rw[hm0] at a4;have ag:=fk a4;clear hl hst hbs hk ak hr a4;obtain⟨g,hg⟩:∃ g,w.heap.size=g:=⟨_,rfl⟩
 go_enter func44,ntmps44;go_upto_region 1 with(fail);rw[hg] at ax ay aK;clear hm0;generalize (((w.alloc _).alloc _).alloc _)=W1 at aj ax ay aK k0 k1 k2 k3 k4 ag |-;have ab:=aj;have b0:=ab.size;clear h0 h1 h2 h3 h4 aj;obtain⟨a0,a1,a2,af,al⟩:=kL ax;obtain⟨aD,aE,aF,aG,aH,aI,aJ,bf,bl⟩:=jb ay;go_upto_region 2 with(go_at_call 40;refine ag.out.mono ?_;rintro e w3 ⟨B0,d0,B1,d1,rfl,ai,aP,d3,rfl⟩)
 have hC:=je.make (B:=[(g,U #[J A0 s.fw.length c0,J A1 s.fD.length c1,J A2 s.fm.length c2] 28 (0,0)),(g+1,U #[C Z m.Pc,C Z m.Sp,C Z m.Fp,J A3 m.fK.length c3,J A4 m.iE.length c4,C Z 0,C Z m.Value] 41 (0,0)),(g+1+1,U #[C Z 0,C Z 0,C Z 0,J I 0 0,J I 0 0,C Z 0,C Z 0] 41 (0,0))]) (Ve:=Ve) (row:=#[C Z m.Pc,C Z m.Sp,C Z m.Fp,J B0 m.fK.length d0,J B1 m.iE.length d1,C Z m.fY,C Z m.Value,X M]) rfl ai (fy.of W1 aP d3) (by
  intro p hp;simp only[VT,WB,Xy] at hp;rcases hp with rfl | rfl | rfl
  ·exact ax
  ·exact ay
  ·exact aK) HM.out
 rw[mJ] at hC;obtain⟨gc,aV⟩:∃ gc,W1.heap.size+aP.size=gc:=⟨_,rfl⟩
 rw[aV] at hC |-;generalize (fH W1 aP d3).alloc _=wc at hC |-;have HC:=fk hC;clear hC aV ai aD aE aF aG aH aI aJ bf bl a0 a1 a2 af al ag;obtain⟨a0,a1,a2,af,al⟩:=kL (HC.out.kept (g:=g) (.head _));obtain⟨aD,aE,aF,aG,aH,aI,aJ,bf,bl⟩:=jb (HC.out.kept (g:=g+1) (.tail _ (.head _)));have f0:=Ty.up _ k0 HC.out.grow;have f1:=Ty.up _ k1 HC.out.grow;go_upto_region 3 with(go_at_call 84;refine(zx8 (s:=s) f0 f1 b4.out b5.out b3.out aq).mono ?_;rw[HR.out];rintro e w4 ⟨rfl,aQ,d4,rfl⟩);have an:=(HC.out.fH (fy.of wc aQ d4)).lu (cs:=#[C Z r.code,C Z r.arg]) (t:=142);rw[mJ] at an;obtain⟨g5,aU⟩:∃ g5,wc.heap.size+aQ.size=g5:=⟨_,rfl⟩
 rw[aU] at an |-;generalize (fH wc aQ d4).alloc _=w5 at an |-;have aa:=fk an;clear an aU HC a0 a1 a2 af al aD aE aF aG aH aI aJ bf bl f0 f1;cases bd with
 | false=>
  have HS:=fk (am.trans (Vo gm));clear am ap;have ar:=Ty.up _ k3 aa.out.grow;have au:=Ty.up _ k4 aa.out.grow;have a4:=zdP (x:=m) aq HM.out.sp HM.out.fp ar au HM.out.st HM.out.va aC.out;rw[aB.out] at a4;have ag:=fk a4;clear a4;obtain⟨x0,x1,x2,x3,x4,x5,x6,xf,xl⟩:=jb (aa.out.kept (g:=g+1) (.tail _ (.tail _ (.head _))));go_upto_region 8 with(go_at_call 40;refine ag.out.mono ?_;rintro e w8 ⟨C0,e0,C1,e1,rfl,ai,a5,d8,rfl⟩);have ae:=Ev ai;have ad:fy w5 ((fH w5 a5 d8).alloc (U #[C Z m.Pc,C Z m.Sp,C Z m.Fp,J C0 m.fK.length e0,J C1 m.iE.length e1,C Z 2,C Z m.Value] 41)):=gG;have eM:=Vj (fH w5 a5 d8) (U #[C Z m.Pc,C Z m.Sp,C Z m.Fp,J C0 m.fK.length e0,J C1 m.iE.length e1,C Z 2,C Z m.Value] 41);have hz:=zj (aa.out.kept (g:=g+1+1) (.tail _ (.tail _ (.tail _ (.head _))))) ad;obtain⟨SS,ac,hlS⟩:=gH.has ae;have hHs:=ac.fH (W':=(fH w5 a5 d8).alloc (U #[C Z m.Pc,C Z m.Sp,C Z m.Fp,J C0 m.fK.length e0,J C1 m.iE.length e1,C Z 2,C Z m.Value] 41)) gF;have hGw:=(ab.trans aa.out.grow).trans ad;have aW:=(Wt.1 (aa.out.kept (g:=g+1+1) (.tail _ (.tail _ (.tail _ (.head _)))))).1;have aX:=(ab.trans aa.out.grow).size;rw[mJ] at eM;generalize (fH w5 a5 d8).alloc _=w9 at ad eM hz hHs hGw |-;exact yV
 | true=>
  have HQ:=fk (am.trans (Vs rfl));obtain⟨bh,b8,b7,aT,b6⟩:=ap rfl;have b2:=fk aT;clear am ap aT;obtain⟨q0,q1,q2,qf,ql⟩:=kL (aa.out.kept (g:=g) (.tail _ (.head _)));obtain⟨o0,o1,bb,bc,ol⟩:=mI (aa.out.kept (g:=g5) (.head _));go_upto_region 5 with(go_at_call 85;refine(Rt (es:=s.fm) aa.out k2 fh fh ⟨fh,fh⟩ b8 b7 b2.out b6).mono ?_;rintro e w6 ⟨rfl,b1,m1,aR,aZ⟩);have aS:mC s m=((iT b1 m1).bind oW).getD { m with fY:=2 }:=by rw[HQ.out,aZ];rfl
  have aw:=fk aS;have a9:=fk aR;clear aS aZ q0 q1 q2 qf ql o0 o1 bb bc ol HQ aR aa;obtain⟨Ay,cy,a6,a8,SS,eM,a3,hHs,hlS,ah⟩:=a9.out.all;obtain⟨z0,z1,z2,z3,z4,z5,z6,z7,zf,zl⟩:=vt eM;obtain⟨u0,u1,u2,u3,u4,u5,u6,uf,ul⟩:=jb (a9.out.kept (g:=g+1+1) (.tail _ (.tail _ (.tail _ (.head _)))));cases b1 with
  | true=>
   have HS:=fk (aw.out.trans rfl);have ar:=Ty.up _ k3 a9.out.grow;have au:=Ty.up _ k4 a9.out.grow;have a4:=zdP (x:=m) aq HM.out.sp HM.out.fp ar au HM.out.st HM.out.va aC.out;rw[aB.out] at a4;have ag:=fk a4;clear a4;obtain⟨x0,x1,x2,x3,x4,x5,x6,xf,xl⟩:=jb (a9.out.kept (g:=g+1) (.tail _ (.tail _ (.head _))));go_upto_region 8 with(go_at_call 40;refine ag.out.mono ?_;rintro e w8 ⟨C0,e0,C1,e1,rfl,ai,a5,d8,rfl⟩);have ae:=Ev ai;have ad:fy w6 ((fH w6 a5 d8).alloc (U #[C Z m.Pc,C Z m.Sp,C Z m.Fp,J C0 m.fK.length e0,J C1 m.iE.length e1,C Z 2,C Z m.Value] 41)):=gG;have eM:=Vj (fH w6 a5 d8) (U #[C Z m.Pc,C Z m.Sp,C Z m.Fp,J C0 m.fK.length e0,J C1 m.iE.length e1,C Z 2,C Z m.Value] 41);have hz:=zj (a9.out.kept (g:=g+1+1) (.tail _ (.tail _ (.tail _ (.head _))))) ad;obtain⟨SS,ac,hlS⟩:=gH.has ae;have hHs:=ac.fH (W':=(fH w6 a5 d8).alloc (U #[C Z m.Pc,C Z m.Sp,C Z m.Fp,J C0 m.fK.length e0,J C1 m.iE.length e1,C Z 2,C Z m.Value] 41)) gF;have hGw:=(ab.trans a9.out.grow).trans ad;have aW:=(Wt.1 (a9.out.kept (g:=g+1+1) (.tail _ (.tail _ (.tail _ (.head _)))))).1;have aX:=(ab.trans a9.out.grow).size;rw[mJ] at eM;generalize (fH w6 a5 d8).alloc _=w9 at ad eM hz hHs hGw |-;exact yV
  | false=>
   by_cases hpz:m1.Pc=0
   ·go_upto_region 11 with(go_at_call 86;refine(LS a9.out).mono ?_;rintro e w7 ⟨v1,b9,rfl,ao,aN⟩)
    obtain⟨q,hq⟩:∃ q,gE m1.Sp 0 1199=q:=⟨_,rfl⟩
    rw[hq] at ao;clear Ay cy a6 a8 SS eM a3 hHs hlS ah z0 z1 z2 z3 z4 z5 z6 z7 zf zl u0 u1 u2 u3 u4 u5 u6 uf ul;cases q with
    | false=>
     have HS:=fk (aw.out.trans (show ((F m1).bind oW).getD { m with fY:=2 } = { m with fY:=2 } from by show (oW m1).getD _=_;unfold oW;rw[Vs hpz,vQ hq];rfl));have a7:Hid (je _ W1 w7 (Ve+1) gc H m1):=fk ao;clear hq ao aN;obtain⟨Ay,cy,a6,a8,SS,eM,a3,hHs,hlS,ah⟩:=a7.out.all;obtain⟨z0,z1,z2,z3,z4,z5,z6,z7,zf,zl⟩:=vt eM;obtain⟨u0,u1,u2,u3,u4,u5,u6,uf,ul⟩:=jb (a7.out.kept (g:=g+1+1) (.tail _ (.tail _ (.tail _ (.head _)))));have ar:=Ty.up _ k3 a7.out.grow;have au:=Ty.up _ k4 a7.out.grow;have a4:=zdP (x:=m) aq HM.out.sp HM.out.fp ar au HM.out.st HM.out.va aC.out;rw[aB.out] at a4;have ag:=fk a4;clear a4;obtain⟨x0,x1,x2,x3,x4,x5,x6,xf,xl⟩:=jb (a7.out.kept (g:=g+1) (.tail _ (.tail _ (.head _))));go_upto_region 14 with(go_at_call 40;refine ag.out.mono ?_;rintro e w8 ⟨C0,e0,C1,e1,rfl,ai,a5,d8,rfl⟩);have ae:=Ev ai;have ad:fy w7 ((fH w7 a5 d8).alloc (U #[C Z m.Pc,C Z m.Sp,C Z m.Fp,J C0 m.fK.length e0,J C1 m.iE.length e1,C Z 2,C Z m.Value] 41)):=gG;have eM:=Vj (fH w7 a5 d8) (U #[C Z m.Pc,C Z m.Sp,C Z m.Fp,J C0 m.fK.length e0,J C1 m.iE.length e1,C Z 2,C Z m.Value] 41);have hz:=zj (a7.out.kept (g:=g+1+1) (.tail _ (.tail _ (.tail _ (.head _))))) ad;obtain⟨SS,ac,hlS⟩:=gH.has ae;have hHs:=ac.fH (W':=(fH w7 a5 d8).alloc (U #[C Z m.Pc,C Z m.Sp,C Z m.Fp,J C0 m.fK.length e0,J C1 m.iE.length e1,C Z 2,C Z m.Value] 41)) gF;have hGw:=(ab.trans a7.out.grow).trans ad;have aW:=(Wt.1 (a7.out.kept (g:=g+1+1) (.tail _ (.tail _ (.tail _ (.head _)))))).1;have aX:=(ab.trans a7.out.grow).size;rw[mJ] at eM;generalize (fH w7 a5 d8).alloc _=w9 at ad eM hz hHs hGw |-;exact yV
    | true=>
     have HS:=fk (aw.out.trans (show ((F m1).bind oW).getD { m with fY:=2 } = { m1 with fY:=1,Value:=v1 } from by show (oW m1).getD _=_;unfold oW;rw[Vs hpz,Gb hq (v:=v1) (aN hq)];rfl));have a7:Hid (je _ W1 w7 (Ve+1) gc M m1):=fk ao;clear hq ao aN;obtain⟨Ay,cy,a6,a8,SS,eM,a3,hHs,hlS,ah⟩:=a7.out.all;obtain⟨z0,z1,z2,z3,z4,z5,z6,z7,zf,zl⟩:=vt eM;obtain⟨u0,u1,u2,u3,u4,u5,u6,uf,ul⟩:=jb (a7.out.kept (g:=g+1+1) (.tail _ (.tail _ (.tail _ (.head _)))));go_upto_region 16 with(fail);have aL:=a7.out.num (i:=5) (v:=C Z 1) (bad':=M) (m':={ m1 with fY:=1 }) rfl rfl ⟨a3.len,a3.out,a3.pc,a3.sp,a3.fp,i1,a3.va⟩ (fun _ _=>rfl);generalize w7.setCell _ _=w8 at aL |-;have aA:=fk aL;clear aL;clear Ay cy a6 a8 SS eM a3 hHs hlS ah z0 z1 z2 z3 z4 z5 z6 z7 zf zl u0 u1 u2 u3 u4 u5 u6 uf ul;obtain⟨Ay,cy,a6,a8,SS,eM,a3,hHs,hlS,ah⟩:=aA.out.all;obtain⟨z0,z1,z2,z3,z4,z5,z6,z7,zf,zl⟩:=vt eM;obtain⟨u0,u1,u2,u3,u4,u5,u6,uf,ul⟩:=jb (aA.out.kept (g:=g+1+1) (.tail _ (.tail _ (.tail _ (.head _)))));go_upto_region 17 with(fail);have az:=aA.out.num (i:=6) (v:=C Z v1) (bad':=M) (m':={ m1 with fY:=1,Value:=v1 }) rfl rfl ⟨a3.len,a3.out,a3.pc,a3.sp,a3.fp,a3.st,b9⟩ (fun _ _=>rfl);have aM:=HS.out;obtain⟨m3,aY⟩:∃ m3,({ m1 with fY:=1,Value:=v1 }:fF)=m3:=⟨_,rfl⟩
     rw[aY] at az aM;clear HS aY;have HS:=fk aM;generalize w8.setCell _ _=w9 at az |-;have av:=fk az;clear az aM;clear Ay cy a6 a8 SS eM a3 hHs hlS ah z0 z1 z2 z3 z4 z5 z6 z7 zf zl u0 u1 u2 u3 u4 u5 u6 uf ul;obtain⟨Ay,cy,a6,a8,SS,eM,a3,hHs,hlS,ah⟩:=av.out.all;obtain⟨z0,z1,z2,z3,z4,z5,z6,z7,zf,zl⟩:=vt eM;obtain⟨u0,u1,u2,u3,u4,u5,u6,uf,ul⟩:=jb (av.out.kept (g:=g+1+1) (.tail _ (.tail _ (.tail _ (.head _)))));go_wp2_with(fail);have b0:=ab.size;have h9:=qT (av.out.kept (g:=g+1+1) (.tail _ (.tail _ (.tail _ (.head _))))) (C Z m3.Pc) (C Z m3.Sp) (C Z m3.Fp) (J Ay m3.fK.length cy) (J a6 m3.iE.length a8) (C Z m3.fY) (C Z m3.Value);generalize (((((((w9.setCell _ _).setCell _ _).setCell _ _).setCell _ _).setCell _ _).setCell _ _).setCell _ _)=Vb at h9 |-;obtain⟨r0,r1,r2,r3,r4,r5,r6,_,_⟩:=jb h9.1;have hGX:=h9.2.fH (ab.trans av.out.grow) (fun b hb'=>by simp at hb';omega);have hF9:=hHs.gu h9.2 (fun b hb' hm=>by simp at hm;exact ah _ (.tail _ (.tail _ (.tail _ (.head _)))) (hm ▸ hb'));rw[HS.out];exact Vr (v:=.agg #[C Z m3.Pc,C Z m3.Sp,C Z m3.Fp,J Ay m3.fK.length cy,J a6 m3.iE.length a8,C Z m3.fY,C Z m3.Value]) (by simp[VF,results44,go_sem,r0,r1,r2,r3,r4,r5,r6]) rfl ⟨⟨Ay,cy,a6,a8,rfl,hF9.fresh (fun b hb'=>by have h1:=hlS b hb';omega),hGX⟩,a3⟩
   ·have HS:=fk (aw.out.trans (show ((F m1).bind oW).getD { m with fY:=2 }=m1 from by show (oW m1).getD _=_;unfold oW;rw[Vo hpz];rfl))
    go_wp2_with(fail);have b0:=ab.size;have h9:=qT (a9.out.kept (g:=g+1+1) (.tail _ (.tail _ (.tail _ (.head _))))) (C Z m1.Pc) (C Z m1.Sp) (C Z m1.Fp) (J Ay m1.fK.length cy) (J a6 m1.iE.length a8) (C Z m1.fY) (C Z m1.Value);generalize (((((((w6.setCell _ _).setCell _ _).setCell _ _).setCell _ _).setCell _ _).setCell _ _).setCell _ _)=Vb at h9 |-;obtain⟨r0,r1,r2,r3,r4,r5,r6,_,_⟩:=jb h9.1;have hGX:=h9.2.fH (ab.trans a9.out.grow) (fun b hb'=>by simp at hb';omega);have hF9:=hHs.gu h9.2 (fun b hb' hm=>by simp at hm;exact ah _ (.tail _ (.tail _ (.tail _ (.head _)))) (hm ▸ hb'));rw[HS.out];exact Vr (v:=.agg #[C Z m1.Pc,C Z m1.Sp,C Z m1.Fp,J Ay m1.fK.length cy,J a6 m1.iE.length a8,C Z m1.fY,C Z m1.Value]) (by simp[VF,results44,go_sem,r0,r1,r2,r3,r4,r5,r6]) rfl ⟨⟨Ay,cy,a6,a8,rfl,hF9.fresh (fun b hb'=>by have h1:=hlS b hb';omega),hGX⟩,a3⟩
theorem znH (h0:(jS.sl 103).R w w.heap.size [J A0 x.fo.fw.length c0] x.fo.fw)(h1:(zv.sl 3).R w w.heap.size [J A1 x.fo.fD.length c1] x.fo.fD)
  (h2:(zv.sl 3).R w w.heap.size [J A2 x.fo.fm.length c2] x.fo.fm) (h3:(lQ.sl 41).R w w.heap.size [J A3 x.fu.length c3] x.fu) (ht:fQ x.gM) (hle:fQ x.gO) (hsl:fQ x.fW) (hs:zQ x<=1099511627776) :
  VK prog 48 #[.agg #[J A0 x.fo.fw.length c0,J A1 x.fo.fD.length c1,J A2 x.fo.fm.length c2,J A3 x.fu.length c3,C Z x.gM,C Z x.gO,C Z x.fW]] w (Pp x w):=by
 have aE:my x.fo<=1099511627776:=by unfold zQ at hs;omega
 have aF:nQ mM x.fu<=1099511627776:=by unfold zQ at hs;omega
 go_enter func48,ntmps48;go_wp2_with(go_at_call 72;refine(zhM (s:=x.fo) (Ty.up _ h0 gG) (Ty.up _ h1 gG) (Ty.up _ h2 gG) aE).mono ?_;rintro e w1 ⟨B0,d0,B1,d1,B2,d2,rfl,ao,ah,e1,rfl⟩);have ap:fy w (fH (((w.alloc (U #[J A0 x.fo.fw.length c0,J A1 x.fo.fD.length c1,J A2 x.fo.fm.length c2,J A3 x.fu.length c3,C Z x.gM,C Z x.gO,C Z x.fW] 34)).alloc (U #[J I 0 0,J I 0 0,J I 0 0,J I 0 0,C Z 0,C Z 0,C Z 0] 34)).alloc (U #[J B0 x.fo.fw.length d0,J B1 x.fo.fD.length d1,J B2 x.fo.fm.length d2,J I 0 0,C Z x.gM,C Z x.gO,C Z x.fW] 34)) ah e1):=gG;have eb:(fH (((w.alloc (U #[J A0 x.fo.fw.length c0,J A1 x.fo.fD.length c1,J A2 x.fo.fm.length c2,J A3 x.fu.length c3,C Z x.gM,C Z x.gO,C Z x.fW] 34)).alloc (U #[J I 0 0,J I 0 0,J I 0 0,J I 0 0,C Z 0,C Z 0,C Z 0] 34)).alloc (U #[J B0 x.fo.fw.length d0,J B1 x.fo.fD.length d1,J B2 x.fo.fm.length d2,J I 0 0,C Z x.gM,C Z x.gO,C Z x.fW] 34)) ah e1).heap[w.heap.size]?=F (U #[J A0 x.fo.fw.length c0,J A1 x.fo.fD.length c1,J A2 x.fo.fm.length c2,J A3 x.fu.length c3,C Z x.gM,C Z x.gO,C Z x.fW] 34 (0,0)):=zj (Vj w _) gF;have er:(fH (((w.alloc (U #[J A0 x.fo.fw.length c0,J A1 x.fo.fD.length c1,J A2 x.fo.fm.length c2,J A3 x.fu.length c3,C Z x.gM,C Z x.gO,C Z x.fW] 34)).alloc (U #[J I 0 0,J I 0 0,J I 0 0,J I 0 0,C Z 0,C Z 0,C Z 0] 34)).alloc (U #[J B0 x.fo.fw.length d0,J B1 x.fo.fD.length d1,J B2 x.fo.fm.length d2,J I 0 0,C Z x.gM,C Z x.gO,C Z x.fW] 34)) ah e1).heap[w.heap.size+1]?=F (U #[J I 0 0,J I 0 0,J I 0 0,J I 0 0,C Z 0,C Z 0,C Z 0] 34 (0,0)):=zj (show ((w.alloc (U #[J A0 x.fo.fw.length c0,J A1 x.fo.fD.length c1,J A2 x.fo.fm.length c2,J A3 x.fu.length c3,C Z x.gM,C Z x.gO,C Z x.fW] 34)).alloc (U #[J I 0 0,J I 0 0,J I 0 0,J I 0 0,C Z 0,C Z 0,C Z 0] 34)).heap[w.heap.size+1]?=_ from by have h:=Vj (w.alloc (U #[J A0 x.fo.fw.length c0,J A1 x.fo.fD.length c1,J A2 x.fo.fm.length c2,J A3 x.fu.length c3,C Z x.gM,C Z x.gO,C Z x.fW] 34)) (U #[J I 0 0,J I 0 0,J I 0 0,J I 0 0,C Z 0,C Z 0,C Z 0] 34);rw[VH] at h;exact h) gF;have e8:(fH (((w.alloc (U #[J A0 x.fo.fw.length c0,J A1 x.fo.fD.length c1,J A2 x.fo.fm.length c2,J A3 x.fu.length c3,C Z x.gM,C Z x.gO,C Z x.fW] 34)).alloc (U #[J I 0 0,J I 0 0,J I 0 0,J I 0 0,C Z 0,C Z 0,C Z 0] 34)).alloc (U #[J B0 x.fo.fw.length d0,J B1 x.fo.fD.length d1,J B2 x.fo.fm.length d2,J I 0 0,C Z x.gM,C Z x.gO,C Z x.fW] 34)) ah e1).heap[w.heap.size+1+1]?=F (U #[J B0 x.fo.fw.length d0,J B1 x.fo.fD.length d1,J B2 x.fo.fm.length d2,J I 0 0,C Z x.gM,C Z x.gO,C Z x.fW] 34 (0,0)):=zj (show (((w.alloc (U #[J A0 x.fo.fw.length c0,J A1 x.fo.fD.length c1,J A2 x.fo.fm.length c2,J A3 x.fu.length c3,C Z x.gM,C Z x.gO,C Z x.fW] 34)).alloc (U #[J I 0 0,J I 0 0,J I 0 0,J I 0 0,C Z 0,C Z 0,C Z 0] 34)).alloc (U #[J B0 x.fo.fw.length d0,J B1 x.fo.fD.length d1,J B2 x.fo.fm.length d2,J I 0 0,C Z x.gM,C Z x.gO,C Z x.fW] 34)).heap[w.heap.size+1+1]?=_ from by have h:=Vj ((w.alloc (U #[J A0 x.fo.fw.length c0,J A1 x.fo.fD.length c1,J A2 x.fo.fm.length c2,J A3 x.fu.length c3,C Z x.gM,C Z x.gO,C Z x.fW] 34)).alloc (U #[J I 0 0,J I 0 0,J I 0 0,J I 0 0,C Z 0,C Z 0,C Z 0] 34)) (U #[J B0 x.fo.fw.length d0,J B1 x.fo.fD.length d1,J B2 x.fo.fm.length d2,J I 0 0,C Z x.gM,C Z x.gO,C Z x.fW] 34);rw[VH,VH] at h;exact h) gF;have an:=ao.mw.same (w2:=(fH (((w.alloc (U #[J A0 x.fo.fw.length c0,J A1 x.fo.fD.length c1,J A2 x.fo.fm.length c2,J A3 x.fu.length c3,C Z x.gM,C Z x.gO,C Z x.fW] 34)).alloc (U #[J I 0 0,J I 0 0,J I 0 0,J I 0 0,C Z 0,C Z 0,C Z 0] 34)).alloc (U #[J B0 x.fo.fw.length d0,J B1 x.fo.fD.length d1,J B2 x.fo.fm.length d2,J I 0 0,C Z x.gM,C Z x.gO,C Z x.fW] 34)) ah e1)) (by repeat (first | with_reducible exact gV.refl _ _ _ | ((with_reducible refine gV.base ?_ ?_) <;> (simp <;> omega)) | ((with_reducible refine gV.more ?_ ?_ _ _);rotate_left;simp <;> omega) | ((with_reducible refine gV.alloc ?_ ?_ _);rotate_left;simp <;> omega) | with_reducible apply gV.drew | with_reducible apply gV.drewN));obtain⟨SS,aj,aw⟩:=gH.has an.fresh;have ad:∀ b∈SS,w.heap.size+1+1<b:=fun b hb=>by have h:=aw b hb;rw[VH,VH,VH] at h;omega
 clear aw an ao;obtain⟨g,hg⟩:∃ g,w.heap.size=g:=⟨_,rfl⟩
 rw[hg] at eb er e8 ad |-;generalize (fH (((w.alloc _).alloc _).alloc _) ah e1)=wc at ap eb er e8 aj |-;have aJ:=(blt e8)
 go_loopw [4] (fun a wr=>∃(k:Nat) (A:N VQ) (c:Nat) (S:D Nat),a=C Z k/\k<=x.fu.length/\Hid (fG [g+1+1] wc wr)/\Hid (wr.heap[g+1+1]?=F (U #[J B0 x.fo.fw.length d0,J B1 x.fo.fD.length d1,J B2 x.fo.fm.length d2,J A k c,C Z x.gM,C Z x.gO,C Z x.fW] 34 (0,0)))/\Hid (Has (lQ.sl 41) wr [J A k c] (x.fu.take k) S)/\Hid (∀ b∈S,wc.heap.size<=b)) (fun a _=>x.fu.length-(Wj a).toNat)
 case atStart=>exact⟨0,I,0,[],rfl,Vu _,fk (fG.refl _ _),fk e8,fk (Has.nil _ _ _),fk gm⟩
 case round=>
  obtain⟨k,A,c,S,rfl,hk,ho,hb,hH,hS⟩:=hrel;have ab:fy w wr:=ho.out.fH ap (fun b hb=>by simp at hb;omega);have aL:wc.heap.size<=wr.heap.size:=ho.out.size;have az:=(ho.out.block g fh (by simp;omega)).trans eb;have am:=(ho.out.block (g+1) fh gm).trans er;obtain⟨q0,q1,q2,q3,q4,q5,q6,_,ql⟩:=jb az;obtain⟨o0,o1,o2,o3,o4,o5,o6,of,ol⟩:=jb hb.out;obtain⟨z0,z1,z2,z3,z4,z5,z6,zf,zl⟩:=jb am;by_cases hlt:k<x.fu.length
  ·obtain⟨gI,ae,y,Aa,ca,Ab,cb,rfl,aI,ay,m0,m1,m2,m3,m4,m5,m6,p0,p1,p2,p3,p4,p5,p6⟩:=Bz h3 hlt
   have n0:=uz ab m0;have n1:=uz ab m1;have n2:=uz ab m2;have n3:=uz ab m3;have n4:=uz ab m4;have n5:=uz ab m5;have n6:=uz ab m6;have r3:=Ty.up _ p3 ab;have r4:=Ty.up _ p4 ab;have aD:(k:Int)<(x.fu.length:Int):=fh;have aK:x.fu.length<=1099511627776:=by unfold nQ at aF;omega
   have aH:mM y<=1099511627776:=by have h1:=yD mM ay;omega
   clear m0 m1 m2 m3 m4 m5 m6;go_upto_region 7 with(fail);refine lO (fun w'=>Vg w' ⟨g,3,I⟩=F (J (F ⟨gI,ae,I⟩) x.fu.length c3)/\Vg w' ⟨g+1+1,3,I⟩=F (J A k c)/\Vg w' ⟨gI,ae+k*7,I⟩=F (C Z y.Pc)/\Vg w' ⟨gI,ae+k*7+1,I⟩=F (C Z y.Sp)/\Vg w' ⟨gI,ae+k*7+2,I⟩=F (C Z y.Fp)/\Vg w' ⟨gI,ae+k*7+3,I⟩=F (J Aa y.fK.length ca)/\Vg w' ⟨gI,ae+k*7+4,I⟩=F (J Ab y.iE.length cb)/\Vg w' ⟨gI,ae+k*7+5,I⟩=F (C Z y.fY)/\Vg w' ⟨gI,ae+k*7+6,I⟩=F (C Z y.Value)) 11 gU (Vm (zc q3) (Vm (zc o3) (Vm (zc n0) (Vm (zc n1) (Vm (zc n2) (Vm (zc n3) (Vm (zc n4) (Vm (zc n5) (zc n6))))))))) (fun a8=>?_);refine .tq 0 [11] a8 ?_;refine .tq 1 [11] a8 ?_;refine .tq 2 [11] a8 ?_;refine .tq 3 [11] a8 ?_;refine .tq 4 [11] a8 ?_;refine .tq 5 [11] a8 ?_;refine .tq 6 [11] a8 ?_;refine fL.iQ (i:=7) gU rfl (fun K hK=>?_)
   ·go_simp
    go_at_call 40;refine(zdP (x:=y) p0 p1 p2 (Ty.up _ r3 gG) (Ty.up _ r4 gG) p5 p6 aH).mono ?_;rintro e w2 ⟨Ba,ea,Bb,aa,rfl,aA,a7,e2,rfl⟩;have a8:=Vm (zd (zc q3) a7 e2) (Vm (zd (zc o3) a7 e2) (Vm (zd (zc n0) a7 e2) (Vm (zd (zc n1) a7 e2) (Vm (zd (zc n2) a7 e2) (Vm (zd (zc n3) a7 e2) (Vm (zd (zc n4) a7 e2) (Vm (zd (zc n5) a7 e2) (zd (zc n6) a7 e2))))))));refine hK.out _ _ a8 ?_;clear hK
    try simp only[lay]
    refine fL.iQ (i:=8) gU rfl (fun K hK=>?_)
    ·go_simp
     have a8:=Vm (zq (zd (zc q3) a7 e2) (U #[C Z y.Pc,C Z y.Sp,C Z y.Fp,J Ba y.fK.length ea,J Bb y.iE.length aa,C Z y.fY,C Z y.Value] 41)) (Vm (zq (zd (zc o3) a7 e2) (U #[C Z y.Pc,C Z y.Sp,C Z y.Fp,J Ba y.fK.length ea,J Bb y.iE.length aa,C Z y.fY,C Z y.Value] 41)) (Vm (zq (zd (zc n0) a7 e2) (U #[C Z y.Pc,C Z y.Sp,C Z y.Fp,J Ba y.fK.length ea,J Bb y.iE.length aa,C Z y.fY,C Z y.Value] 41)) (Vm (zq (zd (zc n1) a7 e2) (U #[C Z y.Pc,C Z y.Sp,C Z y.Fp,J Ba y.fK.length ea,J Bb y.iE.length aa,C Z y.fY,C Z y.Value] 41)) (Vm (zq (zd (zc n2) a7 e2) (U #[C Z y.Pc,C Z y.Sp,C Z y.Fp,J Ba y.fK.length ea,J Bb y.iE.length aa,C Z y.fY,C Z y.Value] 41)) (Vm (zq (zd (zc n3) a7 e2) (U #[C Z y.Pc,C Z y.Sp,C Z y.Fp,J Ba y.fK.length ea,J Bb y.iE.length aa,C Z y.fY,C Z y.Value] 41)) (Vm (zq (zd (zc n4) a7 e2) (U #[C Z y.Pc,C Z y.Sp,C Z y.Fp,J Ba y.fK.length ea,J Bb y.iE.length aa,C Z y.fY,C Z y.Value] 41)) (Vm (zq (zd (zc n5) a7 e2) (U #[C Z y.Pc,C Z y.Sp,C Z y.Fp,J Ba y.fK.length ea,J Bb y.iE.length aa,C Z y.fY,C Z y.Value] 41)) (zq (zd (zc n6) a7 e2) (U #[C Z y.Pc,C Z y.Sp,C Z y.Fp,J Ba y.fK.length ea,J Bb y.iE.length aa,C Z y.fY,C Z y.Value] 41)))))))));refine hK.out _ _ a8 ?_;clear hK
     try simp only[lay]
     refine fL.iQ (i:=9) gU rfl (fun K hK=>?_)
     ·obtain⟨Sy,aC,hly⟩:=gH.has aA
      have ak:∀ b∈S,b∉Sy:=fun b hb' hm=>by have h1:wr.heap.size<=b:=hly b hm;have h2:=hH.out.lt b hb';omega
      refine Bh (L:=k+1) rfl (.tmp 19) (.tmp 26) JT (hH.out.fH gF) (aC.fH gF) ak rfl rfl rfl (by intro j u hu;simpa[go_sem] using hu) rfl fh fh ?_;intro A7 c7 W7 S7 a9 aq hS7;have ac:∀ i,i<wc.heap.size->i∉S:=fun i hi hm=>by have:=hS.out i hm;omega
      have e7:=Da hb.out gF a9 (ac _ fh);have a8:=Vm (zE q3 gF a9 (ac _ fh)) (Vm (zE o3 gF a9 (ac _ fh)) (Vm (zE n0 gF a9 (ac _ fh)) (Vm (zE n1 gF a9 (ac _ fh)) (Vm (zE n2 gF a9 (ac _ fh)) (Vm (zE n3 gF a9 (ac _ fh)) (Vm (zE n4 gF a9 (ac _ fh)) (Vm (zE n5 gF a9 (ac _ fh)) (zE n6 gF a9 (ac _ fh)))))))));have hGo:fy wr ((fH wr a7 e2).alloc (U #[C Z y.Pc,C Z y.Sp,C Z y.Fp,J Ba y.fK.length ea,J Bb y.iE.length aa,C Z y.fY,C Z y.Value] 41)):=gG
      have av:∀ b∈S7,wc.heap.size<=b:=fun b hb'=>by
       exact yg
      have ax:=Fb ho.out hGo a9 hS.out 3 (J A7 (k+1) c7);have au:=ko (i:=3) (v:=J A7 (k+1) c7) e7 rfl;have ag:=aq.gu ((fG.refl [g+1+1] W7).setCell (p:=⟨g+1+1,3,I⟩) gm (J A7 (k+1) c7)) (fun b hb' hm=>by have:=av b hb';simp at hm;omega);refine hK.out _ _ a8 ?_;clear hK
      try simp only[lay]
      refine .tq 10 [11] a8 ?_;obtain⟨a0,a1,a2,a3,a4,a5,a6,af,al⟩:=jb e7;refine fL.last gU rfl gU (fun K hK=>?_);go_simp;refine hK.out _ _ ?_;clear hK
      try simp only[lay]
      generalize W7.setCell _ _=Vb at ax au ag |-;clear a8 a9 aq hS7 e7 hb hH ho;have aG:x.fu.take k++[y]=x.fu.take (k+1):=by rw[Wr,ay];rfl
      rw[aG] at ag;go_wp2_with(fail);go_roundw;exact⟨k+1,A7,c7,S7,gm,fh,fk ax,fk au,fk ag,fk av⟩;exact iC
  ·obtain rfl:k=x.fu.length:=fh
   have aD:¬ (x.fu.length:Int)<(x.fu.length:Int):=fh;have ar:=hH.out;rw[WG] at ar;go_wp2_with(fail);have h9:=qT am (J B0 x.fo.fw.length d0) (J B1 x.fo.fD.length d1) (J B2 x.fo.fm.length d2) (J A x.fu.length c) (C Z x.gM) (C Z x.gO) (C Z x.fW);obtain⟨r0,r1,r2,r3,r4,r5,r6,_,_⟩:=jb h9.1;have aB:=h9.2.fH ab (fun b hb'=>by simp at hb';omega);have ai:=(aj.gu ho.out (fun b hb' hm=>by have:=ad b hb';simp at hm;omega)).gu h9.2 (fun b hb' hm=>by have:=ad b hb';simp at hm;omega);have ag:=ar.gu h9.2 (fun b hb' hm=>by have:=hS.out b hb';simp at hm;omega);refine Vr (v:=.agg #[J B0 x.fo.fw.length d0,J B1 x.fo.fD.length d1,J B2 x.fo.fm.length d2,J A x.fu.length c,C Z x.gM,C Z x.gO,C Z x.fW]) (by simp[VF,results48,go_sem,r0,r1,r2,r3,r4,r5,r6]) rfl ⟨B0,d0,B1,d1,B2,d2,A,c,rfl,⟨_,Cl ai.1 ag.1 ht hle hsl,?_,?_⟩,aB⟩
   ·refine Wb.2 ⟨ai.2,ag.2,fun a ha b hb' he=>?_⟩
    have h1:=hS.out b hb';have h2:=aj.lt a ha;omega
   ·intro b hb'
    rcases VA.1 hb' with hb' | hb'
    ·have:=ad b hb'
     omega
    ·have:=hS.out b hb'
     omega
def vn (x:gB)(t:Nat)(m:fF)(moved:Bool):gB:=
 let left:=(if moved=H then x.fW else x.gO)-1
 { x with fu:=x.fu.set t (mC x.fo m),gM:=if left=0 then (((t+1) % x.fu.length:Nat):Int) else (t:Int),gO:=if left=0 then x.fW else left }
def oz (x:gB):Nat->Nat->gB × Int
 | 0,_=>(x,-1)
 | f+1,k=>match x.fu[(x.gM.toNat+k) % x.fu.length]? with
  | some m=>if m.fY=0 then (vn x ((x.gM.toNat+k) % x.fu.length) m (decide (0<k)),(((x.gM.toNat+k) % x.fu.length:Nat):Int)) else oz x f (k+1)
  | none=>(x,-1)
def oB (x:gB):gB × Int:=oz x x.fu.length 0
structure mj (Ve:Nat)(x:gB):Prop where
 sp:ke x.fo=H
 n1:1<=x.fu.length
 n3:x.fu.length<=3
 t0:0<=x.gM
 t1:x.gM<x.fu.length
 l1:1<=x.gO
 l2:x.gO<=x.fW
 s1:x.fW<=1000
 ms:∀ m∈x.fu,p8 Ve m
theorem mj.yX (h:mj Ve x):x.fo.fw.length=x.fo.fD.length/\(∀ i∈x.fo.fw,i.Code.size<=1099511627776)/\∀ b∈x.fo.fD,gE b 1 1000000=H:=by
 have h1:=h.sp;simp only[ke,Vt,VD,Xm] at h1;refine⟨fh,fun i hi=>?_,h1.1.1.2⟩;have h2:=h1.1.1.1.2 i hi;simp only[kI,Vt,VD] at h2;omega
theorem p8.up (h:p8 Ve m):p8 (Ve+1) m:=⟨h.len,by have:=h.out;omega,h.pc,h.sp,h.fp,h.st,h.va⟩
theorem mj.up {Ve:Nat}{x:gB}(h:mj Ve x):mj (Ve+1) x:=⟨h.sp,h.n1,h.n3,h.t0,h.t1,h.l1,h.l2,h.s1,fun m hm=>(h.ms m hm).up⟩
theorem Ct {left:Int} (hl:(if moved=H then x.fW else x.gO)-1=left):vn x t m moved = { x with fu:=x.fu.set t (mC x.fo m),gM:=if left=0 then (((t+1) % x.fu.length:Nat):Int) else (t:Int),gO:=if left=0 then x.fW else left }:=by
 subst hl;rfl
theorem mj.s9 (h:mj Ve x)(hm:p8 (Ve+1) (mC x.fo m))(ht:t<x.fu.length):mj (Ve+1) (vn x t m moved):=by
 have hn:(x.fu.set t (mC x.fo m)).length=x.fu.length:=VY;have h1:=h.l1;have h2:=h.l2;have h3:=h.n1;have h5:=h.n3;have h4:(t+1) % x.fu.length<x.fu.length:=Y6 _ fh;obtain⟨left,hl⟩:∃ l:Int,(if moved=H then x.fW else x.gO)-1=l:=⟨_,rfl⟩
 have a0:0<=left/\left<x.fW:=by
  cases moved with
  | true=>rw[Vs rfl] at hl;omega
  | false=>rw[Vo gm] at hl;omega
 rw[Ct hl]
 have hT:0<=(if left=0 then (((t+1) % x.fu.length:Nat):Int) else (t:Int))/\(if left=0 then (((t+1) % x.fu.length:Nat):Int) else (t:Int))<(x.fu.length:Int):=by
  split <;> omega
 have hL:1<=(if left=0 then x.fW else left)/\(if left=0 then x.fW else left)<=x.fW:=by
  split <;> omega
 refine⟨h.sp,by rw[hn];exact h3,by rw[hn];exact h5,hT.1,by rw[hn];exact hT.2,hL.1,hL.2,h.s1,fun y hy=>?_⟩;rcases Xg hy with hy | rfl
 ·exact(h.ms y hy).up
 ·exact hm
theorem CE (hm:x.fu[(x.gM.toNat+k) % x.fu.length]?=F m)(hs:¬ m.fY=0):oz x (f+1) k=oz x f (k+1):=by
 rw[oz,hm];exact Vo hs
theorem CN (hm:x.fu[(x.gM.toNat+k) % x.fu.length]?=F m)(hs:m.fY=0):oz x (f+1) k=(vn x ((x.gM.toNat+k) % x.fu.length) m (decide (0<k)),(((x.gM.toNat+k) % x.fu.length:Nat):Int)):=by
 rw[oz,hm];exact Vs hs
structure lU (B:D (Nat × Obj))(Y W:V)(gp:Nat)(x:gB)(A0:N VQ)(c0:Nat)(A1:N VQ)(c1:Nat)(A2:N VQ)(c2:Nat)(A3:N VQ)(c3:Nat)(S0 S3:D Nat):Prop where
 box:W.heap[gp]?=F (U #[J A0 x.fo.fw.length c0,J A1 x.fo.fD.length c1,J A2 x.fo.fm.length c2,J A3 x.fu.length c3,C Z x.gM,C Z x.gO,C Z x.fW] 34 (0,0))
 sp:Has nh W [J A0 x.fo.fw.length c0,J A1 x.fo.fD.length c1,J A2 x.fo.fm.length c2] x.fo S0
 th:Has (lQ.sl 41) W [J A3 x.fu.length c3] x.fu S3
 lG:∀ b∈S0,b∉S3
 g0:gp∉S0
 g3:gp∉S3
 fH:fy Y W
 lg:Y.heap.size<=gp
 l0:∀ b∈S0,Y.heap.size<=b
 l3:∀ b∈S3,Y.heap.size<=b
 kb:∀ p∈B,W.heap[p.1]?=F p.2/\p.1≠gp/\p.1∉S0/\p.1∉S3
section
variable {B:D (Nat × Obj)} {Y W W':V} {gp:Nat} {x:gB} {A0 A1 A2 A3:N VQ} {c0 c1 c2 c3:Nat} {S0 S3:D Nat}
theorem lU.qx (h:lU B Y W gp x A0 c0 A1 c1 A2 c2 A3 c3 S0 S3)(hg:fy W W'):lU B Y W' gp x A0 c0 A1 c1 A2 c2 A3 c3 S0 S3:=
 ⟨zj h.box hg,h.sp.fH hg,h.th.fH hg,h.lG,h.g0,h.g3,h.fH.trans hg,h.lg,h.l0,h.l3,fun p hp=>⟨zj (h.kb p hp).1 hg,(h.kb p hp).2⟩⟩
theorem lU.kept (h:lU B Y W gp x A0 c0 A1 c1 A2 c2 A3 c3 S0 S3){g:Nat}{o:Obj}(hp:(g,o)∈B):W.heap[g]?=F o:=(h.kb (g,o) hp).1
theorem lU.num {t l:Int} (h:lU B Y W gp x A0 c0 A1 c1 A2 c2 A3 c3 S0 S3){i:Nat}{v:Value}
  (hrow:∀ a b c d e,(#[a,b,c,d,C Z x.gM,C Z x.gO,e]:Array Value).setIfInBounds i v=#[a,b,c,d,C Z t,C Z l,e]) :
  lU B Y (W.setCell ⟨gp,i,I⟩ v) gp { x with gM:=t,gO:=l } A0 c0 A1 c1 A2 c2 A3 c3 S0 S3:=by
 have a0:fG [gp] W (W.setCell ⟨gp,i,I⟩ v):=(fG.refl _ _).setCell (p:=⟨gp,i,I⟩) (by simp) _;refine⟨ko (i:=i) (v:=v) h.box (hrow _ _ _ _ _),h.sp.gu a0 (fun b hb hm=>h.g0 (by simp at hm;exact hm ▸ hb)),h.th.gu a0 (fun b hb hm=>h.g3 (by simp at hm;exact hm ▸ hb)),h.lG,h.g0,h.g3,a0.fH h.fH (fun b hb=>by simp at hb;exact hb ▸ h.lg),h.lg,h.l0,h.l3,fun p hp=>?_⟩;obtain⟨h1,h2,h3,h4⟩:=h.kb p hp;exact⟨(a0.block p.1 (blt h1) (by simpa using h2)).trans h1,h2,h3,h4⟩
theorem lU.s8 (h:lU B Y W gp x A0 c0 A1 c1 A2 c2 A3 c3 S0 S3){t:Nat}{m:fF}(hm:x.fu[t]?=F m) :
  ∃ gt A4 c4 A5 c5,A3=F ⟨gt,0,I⟩/\gt<W.heap.size/\gt≠gp/\(∀ j,VE W ⟨gt,j,I⟩=M)/\
   (Vg W ⟨gt,t*7,I⟩=F (C Z m.Pc)/\Vg W ⟨gt,t*7+1,I⟩=F (C Z m.Sp)/\Vg W ⟨gt,t*7+2,I⟩=F (C Z m.Fp)/\Vg W ⟨gt,t*7+3,I⟩=F (J A4 m.fK.length c4)/\Vg W ⟨gt,t*7+4,I⟩=F (J A5 m.iE.length c5)/\Vg W ⟨gt,t*7+5,I⟩=F (C Z m.fY)/\Vg W ⟨gt,t*7+6,I⟩=F (C Z m.Value))/\
   (zv.sl 3).R W W.heap.size [J A4 m.fK.length c4] m.fK/\(zv.sl 3).R W W.heap.size [J A5 m.iE.length c5] m.iE/\
   ∀ w2,fy W w2->∀(y:fF) B0 d0 B1 d1,(gH lQ W w2 [C Z y.Pc,C Z y.Sp,C Z y.Fp,J B0 y.fK.length d0,J B1 y.iE.length d1,C Z y.fY,C Z y.Value] y∨(y = { m with fY:=2 }/\B0=A4/\d0=c4/\B1=A5/\d1=c5))->
    ∃ S3',lU B Y (((((((w2.setCell ⟨gt,t*7,I⟩ (C Z y.Pc)).setCell ⟨gt,t*7+1,I⟩ (C Z y.Sp)).setCell ⟨gt,t*7+2,I⟩ (C Z y.Fp)).setCell ⟨gt,t*7+3,I⟩ (J B0 y.fK.length d0)).setCell ⟨gt,t*7+4,I⟩ (J B1 y.iE.length d1)).setCell ⟨gt,t*7+5,I⟩ (C Z y.fY)).setCell ⟨gt,t*7+6,I⟩ (C Z y.Value)) gp { x with fu:=x.fu.set t y } A0 c0 A1 c1 A2 c2 A3 c3 S0 S3':=by
 obtain⟨gt,ec,Sc,rfl,a8,am,_,_,ai,ak,a6,_⟩:=Fv h.th hm;obtain⟨A4,c4,Sa,A5,c5,Sb,rfl,rfl,p0,p1,p2,o3,o4,p5,p6⟩:=CM ai.1;have hc:∀ j u,[C Z m.Pc,C Z m.Sp,C Z m.Fp,J A4 m.fK.length c4,J A5 m.iE.length c5,C Z m.fY,C Z m.Value][j]?=F u->Vg W ⟨gt,t*7+j,I⟩=F u:=a6;refine⟨gt,A4,c4,A5,c5,rfl,am,fun e=>h.g3 (e ▸ a8),ak,⟨hc 0 _ rfl,hc 1 _ rfl,hc 2 _ rfl,hc 3 _ rfl,hc 4 _ rfl,hc 5 _ rfl,hc 6 _ rfl⟩,Ty.read _ o3,Ty.read _ o4,fun w2 hg2 y B0 d0 B1 d1 hy=>?_⟩;have h2:=h.qx hg2;obtain⟨aA,az,ah,hA,al,an,_,ac,a5,_,a0,aa⟩:=Fv h2.th hm;injection hA with hA
 injection hA with hA
 subst hA
 obtain⟨Sy,aj,a7⟩:∃ Sy,Has lQ w2 [C Z y.Pc,C Z y.Sp,C Z y.Fp,J B0 y.fK.length d0,J B1 y.iE.length d1,C Z y.fY,C Z y.Value] y Sy/\∀ b∈Sy,W.heap.size<=b∨b∈ah:=by
  rcases hy with hy | ⟨rfl,rfl,rfl,rfl,rfl⟩
  ·obtain⟨S,h1,h2⟩:=gH.has hy
   exact⟨S,h1,fun b hb=>.inl (h2 b hb)⟩
  ·obtain⟨A6,c6,ax,A7,c7,ay,rfl,rfl,ar,au,av,ap,aq,aC,aw⟩:=CM a5.1
   have e3:=(a0 3 _ rfl).symm.trans (rS hg2 (hc 3 _ rfl));have e4:=(a0 4 _ rfl).symm.trans (rS hg2 (hc 4 _ rfl));injection e3 with e3
   injection e3 with a1 a2 a3
   injection e4 with e4
   injection e4 with b1 b2 b3
   subst a1 a3 b1 b3;exact⟨_,⟨Co (x:={ m with fY:=2 }) ar au av ap aq ⟨by show (-9223372036854775808:Int)<=2;decide,by show (2:Int)<=9223372036854775807;decide⟩ aw,a5.2⟩,fun b hb=>.inr hb⟩
 have af:=h.th.lt
 obtain⟨a4,S',ag,ad⟩:=aa [C Z y.Pc,C Z y.Sp,C Z y.Fp,J B0 y.fK.length d0,J B1 y.iE.length d1,C Z y.fY,C Z y.Value] y Sy aj (fun b hb=>by
  rcases a7 b hb with h1 | h1
  ·exact .inl (fun hm=>by have:=af b hm;omega)
  ·exact .inr h1)
 have ab:setRow w2 gt (t*lQ.size) 0 [C Z y.Pc,C Z y.Sp,C Z y.Fp,J B0 y.fK.length d0,J B1 y.iE.length d1,C Z y.fY,C Z y.Value]=(((((((w2.setCell ⟨gt,t*7,I⟩ (C Z y.Pc)).setCell ⟨gt,t*7+1,I⟩ (C Z y.Sp)).setCell ⟨gt,t*7+2,I⟩ (C Z y.Fp)).setCell ⟨gt,t*7+3,I⟩ (J B0 y.fK.length d0)).setCell ⟨gt,t*7+4,I⟩ (J B1 y.iE.length d1)).setCell ⟨gt,t*7+5,I⟩ (C Z y.fY)).setCell ⟨gt,t*7+6,I⟩ (C Z y.Value)):=rfl;rw[ab] at a4 ag;generalize (((((((w2.setCell _ _).setCell _ _).setCell _ _).setCell _ _).setCell _ _).setCell _ _).setCell _ _)=w3 at a4 ag |-;clear ab aa;have a9:(x.fu.set t y).length=x.fu.length:=VY;have aB:gp<W.heap.size:=(blt h.box)
 have ao:gp≠gt:=fun e=>h.g3 (e ▸ a8)
 have ae:∀ b∈S',b∈S3∨W.heap.size<=b:=fun b hb=>by
  rcases ad b hb with h1 | h1
  ·exact .inl h1
  ·rcases a7 b h1 with h4 | h4
   ·exact .inr h4
   ·exact .inl (ac b h4)
 refine⟨S',⟨?_,h2.sp.gu a4 (fun b hb hm=>h.lG b hb (by simp at hm;exact hm ▸ a8)),?_,fun b hb hm=>?_,h.g0,fun hm=>?_,a4.fH h2.fH (fun b hb=>by simp at hb;exact hb ▸ h.l3 gt a8),h.lg,h.l0,fun b hb=>?_,fun p hp=>?_⟩⟩
 ·rw[a9]
  exact(a4.block gp (blt h2.box) (by simpa using ao)).trans h2.box
 ·rw[a9]
  exact ag
 ·rcases ae b hm with h1 | h1
  ·exact h.lG b hb h1
  ·have:=h.sp.lt b hb;omega
 ·rcases ae gp hm with h1 | h1
  ·exact h.g3 h1
  ·omega
 ·rcases ae b hb with h1 | h1
  ·exact h.l3 b h1
  ·have:=h.fH.size;omega
 ·obtain⟨h1,h4,h5,h6⟩:=h2.kb p hp
  have h7:=(Wt.1 (h.kb p hp).1).1;refine⟨(a4.block p.1 (blt h1) (fun hm=>h6 (by simp at hm;exact hm ▸ a8))).trans h1,h4,h5,fun hm=>?_⟩;rcases ae p.1 hm with h8 | h8
  ·exact h6 h8
  ·omega
end
theorem GN {a b:V} (hg:fy a b){g i:Nat}(hl:g<a.heap.size):VE b ⟨g,i,I⟩=VE a ⟨g,i,I⟩:=by
 obtain⟨os,d,rfl⟩:=hg;exact Iy os d g i hl
theorem Oh {α:Type} {T:Ty α} {w1:V} {x:α} (h:gH T w1 W cs x)(hl:w.heap.size<=w1.heap.size):gH T w W cs x:=by
 obtain⟨S,h1,h2,h3⟩:=h;exact⟨S,h1,h2,fun b hb=>by have:=h3 b hb;omega⟩
theorem Cd {g:Prop} (f:g:=by
  clear HP hG hE q0 q1 q2 q3 q4 q5 q6 hgl hgtp hfr HTU hkp hmod1 hmod2 hk0 ht hkn hlt
  have HS0:=fk hs
  have HMK:=fk hmk
  have hbx:w1.heap[gp]?=F (U #[J A0 x.fo.fw.length c0,J A1 x.fo.fD.length c1,J A2 x.fo.fm.length c2,J A3 x.fu.length c3,C Z (t:Int),C Z L0,C Z x.fW] 34 (0,0)):=hP1.box
  have hdr:fy w1 w1.drew:=(fy.refl w1).drew
  obtain⟨f0,f1,f2⟩:=Cu hP1.sp.read
  obtain⟨gt,A4,c4,A5,c5,rfl,hgl,hgtp,hfr,⟨q0,q1,q2,q3,q4,q5,q6⟩,o3,o4,hput⟩:=hP1.s8 hmt
  have HPUT:=fk hput
  clear hs hmk hput hP1
  obtain⟨p0,p1,p2,p3,p4,p5,p6,pf,pl⟩:=jb hbx
  clear hbx
  refine lO (fun w'=>Vg w' ⟨gp,0,I⟩=F (J A0 x.fo.fw.length c0)/\Vg w' ⟨gp,1,I⟩=F (J A1 x.fo.fD.length c1)/\Vg w' ⟨gp,2,I⟩=F (J A2 x.fo.fm.length c2)/\Vg w' ⟨gp,3,I⟩=F (J (F ⟨gt,0,I⟩) x.fu.length c3)/\Vg w' ⟨gt,t*7,I⟩=F (C Z m.Pc)/\Vg w' ⟨gt,t*7+1,I⟩=F (C Z m.Sp)/\Vg w' ⟨gt,t*7+2,I⟩=F (C Z m.Fp)/\Vg w' ⟨gt,t*7+3,I⟩=F (J A4 m.fK.length c4)/\Vg w' ⟨gt,t*7+4,I⟩=F (J A5 m.iE.length c5)/\Vg w' ⟨gt,t*7+5,I⟩=F (C Z m.fY)/\Vg w' ⟨gt,t*7+6,I⟩=F (C Z m.Value)) 18 gU (Vm (zc p0) (Vm (zc p1) (Vm (zc p2) (Vm (zc p3) (Vm (zc q0) (Vm (zc q1) (Vm (zc q2) (Vm (zc q3) (Vm (zc q4) (Vm (zc q5) (zc q6))))))))))) (fun hH=>?_)
  have f0:=Ty.up _ f0 hdr
  have f1:=Ty.up _ f1 hdr
  have f2:=Ty.up _ f2 hdr
  have o3:=Ty.up _ o3 hdr
  have o4:=Ty.up _ o4 hdr
  clear p0 p1 p2 p3 q0 q1 q2 q3 q4 q5 q6
  have hsz9:w1.heap.size<=w1.drew.heap.size:=hdr.size
  generalize w1.drew=wx at hdr hH f0 f1 f2 o3 o4 hsz9 |-
  obtain⟨p0,p1,p2,p3,q0,q1,q2,q3,q4,q5,q6⟩:=id hH
  have hfrx:∀ j,VE wx ⟨gt,j,I⟩=M:=fun j=>(GN hdr hgl).trans (hfr j)
  have hgx:gt<wx.heap.size:=fh
  refine .tq 0 [18] hH ?_
  refine .tq 1 [18] hH ?_
  refine .tq 2 [18] hH ?_
  refine .tq 3 [18] hH ?_
  refine .tq 4 [18] hH ?_
  refine .tq 5 [18] hH ?_
  refine .tq 6 [18] hH ?_
  refine .tq 7 [18] hH ?_
  refine .tq 8 [18] hH ?_
  refine .tq 9 [18] hH ?_
  refine .tq 10 [18] hH ?_
  refine .tq 11 [18] hH ?_
  refine .tq 12 [18] hH ?_
  refine .tq 13 [18] hH ?_
  refine .tq 14 [18] hH ?_
  refine .tq 15 [18] hH ?_
  refine fL.one (i:=16) gU rfl (fun K hK=>?_)
  go_simp
  go_at_call 44
  refine(zxm (s:=x.fo) (m:=m) (Ve:=Ve) f0 f1 f2 o3 o4 HIMG.out.1 HIMG.out.2.1 HIMG.out.2.2 HMK.out hN HS0.out).mono ?_
  rintro e w2 ⟨⟨B0,d0,B1,d1,rfl,hF2,hg2⟩,hk2⟩
  have hor:_∨((mC x.fo m) = { m with fY:=2 }/\B0=A4/\d0=c4/\B1=A5/\d1=c5):=Or.inl (Oh hF2 hsz9)
  have p0:=rS hg2 p0
  have p1:=rS hg2 p1
  have p2:=rS hg2 p2
  have p3:=rS hg2 p3
  have q0:=rS hg2 q0
  have q1:=rS hg2 q1
  have q2:=rS hg2 q2
  have q3:=rS hg2 q3
  have q4:=rS hg2 q4
  have q5:=rS hg2 q5
  have q6:=rS hg2 q6
  have hH2:=(Vm p0 (Vm p1 (Vm p2 (Vm p3 (Vm q0 (Vm q1 (Vm q2 (Vm q3 (Vm q4 (Vm q5 q6))))))))))
  refine hK.out _ _ hH2 (fun hI=>?_)
  clear hK hH
  have hH:=hI
  try simp only[lay]
  obtain⟨S4,hP3⟩:=HPUT.out w2 (hdr.trans hg2) _ B0 d0 B1 d1 hor
  have hfr2:∀ j,VE w2 ⟨gt,j,I⟩=M:=fun j=>(GN hg2 hgx).trans (hfrx j)
  have hg2l:gt<w2.heap.size:=by have:=hg2.size;omega
  clear hfrx hfr HPUT
  refine .tq 17 [18] hH ?_
  refine fL.last gU rfl gU (fun K hK=>?_)
  go_simp
  refine hK.out _ _ ?_
  clear hK hH hH2 hI p0 p1 p2 p3 q0 q1 q2 q3 q4 q5 q6
  try simp only[lay]
  generalize (((((((w2.setCell _ _).setCell _ _).setCell _ _).setCell _ _).setCell _ _).setCell _ _).setCell _ _)=w3 at hP3 |-
  have hbx:w3.heap[gp]?=F (U #[J A0 x.fo.fw.length c0,J A1 x.fo.fD.length c1,J A2 x.fo.fm.length c2,J (F ⟨gt,0,I⟩) (x.fu.set t (mC x.fo m)).length c3,C Z (t:Int),C Z L0,C Z x.fW] 34 (0,0)):=hP3.box
  clear p4 p5 p6 pf pl
  obtain⟨p0,p1,p2,p3,p4,p5,p6,pf,pl⟩:=jb hbx
  rw[VY] at p3
  clear hbx
  have hwl:Xr (L0-1)=L0-1:=uq fh fh
  go_upto_region 11 with(fail)
  have hP4:=hP3.num (i:=5) (v:=C Z (L0-1)) (t:=(t:Int)) (l:=L0-1) (fun _ _ _ _ _=>rfl)
  generalize w3.setCell _ _=w4 at hP4 |-
  have hbx:w4.heap[gp]?=F (U #[J A0 x.fo.fw.length c0,J A1 x.fo.fD.length c1,J A2 x.fo.fm.length c2,J (F ⟨gt,0,I⟩) (x.fu.set t (mC x.fo m)).length c3,C Z (t:Int),C Z (L0-1),C Z x.fW] 34 (0,0)):=hP4.box
  clear p0 p1 p2 p3 p4 p5 p6 pf pl
  obtain⟨p0,p1,p2,p3,p4,p5,p6,pf,pl⟩:=jb hbx
  rw[VY] at p3
  clear hbx
  by_cases hz:L0-1=0
  ·have hL1:L0=1:=fh
   go_upto_region 13 with(fail)
   have hP5:=hP4.num (i:=5) (v:=C Z x.fW) (t:=(t:Int)) (l:=x.fW) (fun _ _ _ _ _=>rfl)
   generalize w4.setCell _ _=w5 at hP5 |-
   have hbx:w5.heap[gp]?=F (U #[J A0 x.fo.fw.length c0,J A1 x.fo.fD.length c1,J A2 x.fo.fm.length c2,J (F ⟨gt,0,I⟩) (x.fu.set t (mC x.fo m)).length c3,C Z (t:Int),C Z x.fW,C Z x.fW] 34 (0,0)):=hP5.box
   clear p0 p1 p2 p3 p4 p5 p6 pf pl
   obtain⟨p0,p1,p2,p3,p4,p5,p6,pf,pl⟩:=jb hbx
   rw[VY] at p3
   clear hbx
   have hmt2:((t:Int)+1).tmod (x.fu.length:Int)=(((t+1) % x.fu.length:Nat):Int):=by rw[show (t:Int)+1=((t+1:Nat):Int) from fh];exact rfl
   have hmt3:((t:Int)+1) % (x.fu.length:Int)=(((t+1) % x.fu.length:Nat):Int):=by rw[show (t:Int)+1=((t+1:Nat):Int) from fh];exact rfl
   obtain⟨t2,ht2⟩:∃ t2,(t+1) % x.fu.length=t2:=⟨_,rfl⟩
   rw[ht2] at hmt2 hmt3
   go_upto_region 14 with(fail)
   have hP6:=hP5.num (i:=4) (v:=C Z (t2:Int)) (t:=(t2:Int)) (l:=x.fW) (fun _ _ _ _ _=>rfl)
   generalize w5.setCell _ _=w6 at hP6 |-
   go_wp2_with(fail)
   refine Vr (v:=C Z (t:Int)) (by simp[VF,results49,go_sem]) rfl ⟨by rw[HRES.out],?_,S4,?_⟩
   ·rw[HRES.out]
    exact hv.s9 hk2 htl
   ·rw[HRES.out,Ct hl0]
    simp only[Vs hz,ht2]
    exact hP6
  ·have hL1:¬ L0=1:=fh
   go_wp2_with(fail)
   refine Vr (v:=C Z (t:Int)) (by simp[VF,results49,go_sem]) rfl ⟨by rw[HRES.out],?_,S4,?_⟩
   ·rw[HRES.out]
    exact hv.s9 hk2 htl
   ·rw[HRES.out,Ct hl0]
    simp only[Vo hz]
    exact hP4):g:=f
theorem zzy (h:lU B Y W gp x A0 c0 A1 c1 A2 c2 A3 c3 S0 S3)(hv:mj Ve x)(hN:Ve<=1099511620000) :
  VK prog 49 #[.pointer (F ⟨gp,0,I⟩)] W fun r W'=>r=.returned (C Z (oB x).2)/\mj (Ve+1) (oB x).1/\∃ S3',lU B Y W' gp (oB x).1 A0 c0 A1 c1 A2 c2 A3 c3 S0 S3':=by
 have HIMG:=fk hv.yX;have an:=hv.n1;have ao:=hv.n3;have aq:=hv.t1;have al:=hv.l1;have am:=hv.l2;have ap:=hv.s1;obtain⟨T,hT⟩:=VI hv.t0;have HTU:=fk hT;have ak:T<x.fu.length:=fh;obtain⟨p0,p1,p2,p3,p4,p5,p6,pf,pl⟩:=jb h.box;go_enter func49,ntmps49;go_wp2;go_loopw [3] (fun a wr=>∃ k:Nat,a=C Z k/\k<=x.fu.length/\Hid (fy W wr)/\Hid (oz x (x.fu.length-k) k=oB x)) (fun a _=>x.fu.length-(Wj a).toNat)
 case atStart=>exact⟨0,rfl,Vu _,fk (fy.refl _),fk rfl⟩
 case round=>
  obtain⟨k,rfl,hkn,hG,hE⟩:=hrel;have HP:=fk (h.qx hG.out);clear p0 p1 p2 p3 p4 p5 p6 pf pl;obtain⟨p0,p1,p2,p3,p4,p5,p6,pf,pl⟩:=jb HP.out.box;by_cases hlt:k<x.fu.length
  ·obtain⟨t,ht⟩:∃ t,(T+k) % x.fu.length=t:=⟨_,rfl⟩
   have htl:t<x.fu.length:=by rw[<-ht];exact Y6 _ fh
   have hmod1:((T:Int)+(k:Int)).tmod (x.fu.length:Int)=(t:Int):=by rw[<-ht];rfl
   have hmod2:((T:Int)+(k:Int)) % (x.fu.length:Int)=(t:Int):=by rw[<-ht];rfl
   obtain⟨m,hmt⟩:∃ m,x.fu[t]?=F m:=⟨_,Vq htl⟩
   have hmk:=hv.ms m (Vx hmt);have a2:x.fu[(x.gM.toNat+k) % x.fu.length]?=F m:=by rw[hT,Vy,ht];exact hmt
   have a7:x.fu.length-k=(x.fu.length-(k+1))+1:=fh;have ae:(k:Int)<(x.fu.length:Int):=fh;have ag:¬ ((x.fu.length:Int)=0):=fh;have au:Vl Z ((T:Int)+(k:Int))=(T:Int)+(k:Int):=iw;go_upto_region 4 with(fail);refine CC 11 gU gU (fun wr hgx=>?_);have HP:=fk (HP.out.qx hgx);have hG:=fk (hG.out.trans hgx);clear p0 p1 p2 p3 p4 p5 p6 pf pl;obtain⟨p0,p1,p2,p3,p4,p5,p6,pf,pl⟩:=jb HP.out.box;simp only[Wz,Xk,WR,WQ]
   repeat still_step
   refine XZ ?_;go_upto_region 5 with(fail);obtain⟨gt,A4,c4,A5,c5,a1,hgl,hgtp,hfr,⟨q0,q1,q2,q3,q4,q5,q6⟩,_,_,_⟩:=HP.out.s8 hmt;have ae:(k:Int)<(x.fu.length:Int):=fh;have ar:(t:Int)<(x.fu.length:Int):=fh;have ag:¬ ((x.fu.length:Int)=0):=fh;rw[a1] at p3;by_cases hs:m.fY=0
   ·have a0:=hE.out
    rw[a7,CN a2 hs,hT,Vy,ht] at a0;have HRES:=fk a0.symm;rw[<-a1] at p3;clear a0 a2 a7;by_cases hk0:0<k
    ·have a8:=a1
     rw[a1] at p3;have ac:=fk a1;clear a1 a8;have hkp:(0:Int)<(k:Int):=fh
     have aj:t=T+k∨t+x.fu.length=T+k:=by
      rw[<-ht];rcases Y4 (T+k) x.fu.length with h9 | h9
      ·exact .inl (YS h9)
      ·rw[Nat.mod_eq_sub_mod h9,YS fh]
       omega
     have ah:¬ ((t:Int)=x.gM):=fh;clear aj;have hl0:(if decide (0<k)=H then x.fW else x.gO)-1=x.fW-1:=by rw[Vs (by simpa using hk0)]
     go_upto_region 8 with(fail);have a6:=HP.out.num (i:=5) (v:=C Z x.fW) (t:=x.gM) (l:=x.fW) (fun _ _ _ _ _=>rfl);generalize wr.setCell _ _=wa at a6 |-;have hbx:wa.heap[gp]?=F (U #[J A0 x.fo.fw.length c0,J A1 x.fo.fD.length c1,J A2 x.fo.fm.length c2,J A3 x.fu.length c3,C Z x.gM,C Z x.fW,C Z x.fW] 34 (0,0)):=a6.box;clear p0 p1 p2 p3 p4 p5 p6 pf pl;obtain⟨p0,p1,p2,p3,p4,p5,p6,pf,pl⟩:=jb hbx;clear hbx;go_upto_region 9 with(fail);have hP1:=a6.num (i:=4) (v:=C Z (t:Int)) (t:=(t:Int)) (l:=x.fW) (fun _ _ _ _ _=>rfl);generalize wa.setCell _ _=w1 at hP1 |-;obtain⟨L0,a3⟩:∃ L0,x.fW=L0:=⟨_,rfl⟩
     have a9:1<=L0:=fh;have aa:L0<=1000:=fh;have hl0:(if decide (0<k)=H then x.fW else x.gO)-1=L0-1:=by rw[hl0,a3]
     have hP1:lU B Y w1 gp { x with gM:=(t:Int),gO:=L0 } A0 c0 A1 c1 A2 c2 A3 c3 S0 S3:=by rw[<-a3];exact hP1
     clear a3 ah a6 p0 p1 p2 p3 p4 p5 p6 pf pl;exact Cd
    ·rw[a1] at p3
     have ac:=fk a1;clear a1;obtain rfl:k=0:=fh;rw[Wk] at ht;have hkp:True:=trivial;have ai:t=T:=by rw[<-ht,YS fh]
     subst ai;have a4:(t:Int).tmod (x.fu.length:Int)=(t:Int):=Int.tmod_eq_of_lt fh fh;have a5:(t:Int) % (x.fu.length:Int)=(t:Int):=Int.emod_eq_of_lt fh fh;have hl0:(if decide (0<0)=H then x.fW else x.gO)-1=x.gO-1:=by rw[Vo gm]
     go_upto_region 9 with(fail);have hP1:lU B Y wr gp { x with gM:=(t:Int),gO:=x.gO } A0 c0 A1 c1 A2 c2 A3 c3 S0 S3:=by rw[<-hT];exact HP.out
     obtain⟨w1,ab⟩:∃ w1,wr=w1:=⟨_,rfl⟩
     rw[ab] at hP1 |-;clear ab;obtain⟨L0,a3⟩:∃ L0,x.gO=L0:=⟨_,rfl⟩
     have a9:1<=L0:=fh;have aa:L0<=1000:=fh;rw[a3] at hP1;have hl0:(if decide (0<0)=H then x.fW else x.gO)-1=L0-1:=by rw[hl0,a3]
     clear a3 hT a4 a5 p0 p1 p2 p3 p4 p5 p6 pf pl;exact Cd
   ·have a0:=hE.out
    rw[a7,CE a2 hs] at a0;have ad:=fk a0;clear a0 a2 a7;go_wp2_with(fail);go_roundw;exact⟨k+1,gm,fh,hG,ad⟩;exact iC
  ·have af:¬ ((k:Int)<(x.fu.length:Int)):=fh
   have a0:=hE.out;rw[show x.fu.length-k=0 from fh] at a0;have HRES:=fk (show oB x=(x,-1) from a0.symm);clear a0;go_wp2_with(fail);exact Vr (v:=C Z (-1)) (by simp[VF,results49,go_sem]) rfl ⟨by rw[HRES.out],by rw[HRES.out];exact hv.up,S3,by rw[HRES.out];exact HP.out⟩
def oh (k:Nat)(m m':fF):Prop:=m'.fK.length=m.fK.length/\m'.iE.length<=m.iE.length+k
theorem oh.refl (m:fF):oh 0 m m:=⟨rfl,Vz _⟩
theorem oh.trans {j k:Nat}{a b c:fF}(h1:oh j a b)(h2:oh k b c):oh (j+k) a c:=⟨h2.1.trans h1.1,by have:=h1.2;have:=h2.2;omega⟩
theorem vN (h:jm m v=F m'):oh 0 m m':=by
 unfold jm at h;split at h
 ·injection h with h
  subst h;exact⟨gm,Vz _⟩
 ·cases h
theorem Lj (h:nI m a v=F m'):oh 0 m m':=by
 unfold nI at h;split at h
 ·injection h with h
  subst h;exact⟨gm,Vz _⟩
 ·cases h
theorem ti {p:fF × Int} (h:iR m=F p):oh 0 m p.1:=by
 have h1:=La (m1:=p.1) (v:=p.2) h;rw[h1];exact⟨rfl,Vz _⟩
theorem ES:∀(n:Nat){m m':fF},kt n m=F m'->oh 0 m m'
 | 0,m,m',h=>by injection h with h;subst h;exact oh.refl _
 | n+1,m,m',h=>by
  obtain⟨p,hp,h2⟩:=VG.1 h;exact(ti hp).trans (ES n h2)
theorem E6:∀(n:Nat){m m':fF},qR n m=F m'->oh 0 m m'
 | 0,m,m',h=>by injection h with h;subst h;exact oh.refl _
 | n+1,m,m',h=>by
  obtain⟨p,hp,h2⟩:=VG.1 h;exact(vN hp).trans (E6 n h2)
theorem xt {g:Prop} (f:g:=by
  have k3:=ti h3
  have k4:=ES _ h4
  have k5:=vN h5
  exact up ⟨k5.1.trans (k4.1.trans (k3.1.trans (k2.1.trans k1.1))),VL k5.2 (VL k4.2 (VL k3.2 (VL k2.2 k1.2)))⟩):g:=f
theorem N8 {c:Int} (h:zR es m c a=F m'):oh 1 m m':=by
 have up:∀{x y:fF},oh 0 x y->oh 1 x y:=fun h=>⟨h.1,by have:=h.2;omega⟩;unfold zR at h;by_cases q0:c=0
 ·rw[Vs q0] at h
  exact up (vN h)
 rw[Vo q0] at h;by_cases q1:c=1
 ·rw[Vs q1] at h
  obtain⟨v,_,h2⟩:=VG.1 h;exact up (vN h2)
 rw[Vo q1] at h;by_cases q3:c=3
 ·rw[Vs q3] at h
  obtain⟨v,_,h2⟩:=VG.1 h;exact up (vN h2)
 rw[Vo q3] at h;by_cases q2:c=2
 ·rw[Vs q2] at h
  obtain⟨p,h1,h2⟩:=VG.1 h;exact up ((ti h1).trans (Lj h2))
 rw[Vo q2] at h;by_cases q4:c=4
 ·rw[Vs q4] at h
  obtain⟨p,h1,h2⟩:=VG.1 h;exact up ((ti h1).trans (Lj h2))
 rw[Vo q4] at h;by_cases q10:c=10
 ·rw[Vs q10] at h
  injection h with h
  subst h;exact up (oh.refl _)
 rw[Vo q10] at h;by_cases q11:c=11
 ·rw[Vs q11] at h
  obtain⟨p,h1,h2⟩:=WV.1 h;have h3:=ti h1;subst h2;split
  ·exact up h3
  ·exact up h3
 rw[Vo q11] at h;by_cases q12:c=12
 ·rw[Vs q12] at h
  obtain⟨p,h1,h2⟩:=VG.1 h;obtain⟨e,_,h4⟩:=WV.1 h2;subst h4;have h5:=vN h1;exact up ⟨h5.1,h5.2⟩
 rw[Vo q12] at h;by_cases q13:c=13
 ·rw[Vs q13] at h
  obtain⟨p,h1,h2⟩:=VG.1 h;have h3:=E6 _ h2;have h4:=vN h1;exact up ⟨h3.1.trans h4.1,VL h3.2 h4.2⟩
 rw[Vo q13] at h;by_cases q15:c=15
 ·rw[Vs q15] at h
  exact up (E6 _ h)
 rw[Vo q15] at h;by_cases q14:c=14
 ·rw[Vs q14] at h
  obtain⟨p,h1,h⟩:=VG.1 h;obtain⟨q,h2,h⟩:=VG.1 h;obtain⟨r,h3,h⟩:=VG.1 h;obtain⟨d,h4,h5⟩:=VG.1 h;have k1:=ti h1;have k2:=ti h2;exact xt
 rw[Vo q14] at h;by_cases q16:c=16
 ·rw[Vs q16] at h
  obtain⟨p,h1,h⟩:=VG.1 h;obtain⟨q,h2,h⟩:=VG.1 h;obtain⟨r,h3,h⟩:=VG.1 h;obtain⟨d,h4,h5⟩:=VG.1 h;have k1:=ti h1;have k2:=ES _ h2;exact xt
 rw[Vo q16] at h;by_cases q17:c=17
 ·rw[Vs q17] at h
  obtain⟨p,h1,h2⟩:=WV.1 h;have h3:=ti h1;subst h2;exact⟨h3.1,by have:=h3.2;simp;omega⟩
 rw[Vo q17] at h;obtain⟨p,h1,h⟩:=VG.1 h;obtain⟨q,h2,h3⟩:=VG.1 h;exact up (((ti h1).trans (ti h2)).trans (vN h3))
theorem Ud (h:oW m=F m'):oh 0 m m':=by
 unfold oW at h;split at h
 ·obtain⟨v,_,h2⟩:=WV.1 h
  subst h2;exact⟨rfl,Vz _⟩
 ·injection h with h
  subst h;exact oh.refl _
theorem RX (s:gQ)(m:fF):oh 1 m (mC s m):=by
 have hs:oh 1 m { m with fY:=2 }:=⟨rfl,X4 _ _⟩
 rw[Ik];split
 ·cases hp:(zR s.fm { m with Pc:=m.Pc+((kE s m.Pc).n:Int) } (kE s m.Pc).code (kE s m.Pc).arg).bind oW with
  | none=>exact hs
  | some m'=>
   obtain⟨q,h1,h2⟩:=VG.1 hp;have k1:=N8 h1;have k2:=Ud h2;exact⟨k2.1.trans k1.1,by have:=k1.2;have:=k2.2;show m'.iE.length<=m.iE.length+1;have h5:({ m with Pc:=m.Pc+((kE s m.Pc).n:Int) }:fF).iE.length=m.iE.length:=rfl;omega⟩
 ·exact hs
theorem TJ (s:gQ)(m:fF):mM (mC s m)<=mM m+1:=by
 have h:=RX s m;have h1:=h.1;have h2:=h.2;unfold mM;omega
theorem Lw {α:Type}(f:α->Nat):∀(xs:D α)(t:Nat)(x y:α),xs[t]?=F x->f y<=f x+1->((xs.set t y).map f).sum<=(xs.map f).sum+1
 | [],t,x,y,h,_=>by simp at h
 | a::r,0,x,y,h,hf=>by
  simp at h;subst h;simp only[Zt,WD,Xz];omega
 | a::r,t+1,x,y,h,hf=>by
  have:=Lw f r t x y (by simpa using h) hf;simp only[Zu,WD,Xz];omega
theorem Jl (x:gB):∀(f k:Nat),zQ (oz x f k).1<=zQ x+1/\(oz x f k).1.fo=x.fo
 | 0,k=>⟨X4 _ _,rfl⟩
 | f+1,k=>by
  cases hm:x.fu[(x.gM.toNat+k) % x.fu.length]? with
  | none=>
   have h:oz x (f+1) k=(x,-1):=by rw[oz,hm]
   rw[h];exact⟨X4 _ _,rfl⟩
  | some m=>
   by_cases hs:m.fY=0
   ·rw[CN hm hs]
    refine⟨?_,rfl⟩;have h1:=Lw mM x.fu _ m (mC x.fo m) hm (TJ x.fo m);show my x.fo+nQ mM (x.fu.set _ (mC x.fo m))<=my x.fo+nQ mM x.fu+1;unfold nQ;rw[VY];omega
   ·rw[CE hm hs]
    exact Jl x f (k+1)
theorem Kx (x:gB):zQ (oB x).1<=zQ x+1:=(Jl x _ _).1
theorem TI {α:Type} (f:α->Nat){xs:D α}{x:α}(h:x∈xs):f x<=nQ f xs:=by
 obtain⟨j,hj⟩:=XS h;exact yD f hj
theorem mj.mk' (h:km x=H)(hsz:zQ x<=Ve)(hm:∀ m∈x.fu,fQ m.Pc/\fQ m.Sp/\fQ m.Fp/\fQ m.fY/\fQ m.Value):mj Ve x:=by
 unfold km at h;simp only[Vt,Xm] at h;obtain⟨⟨⟨⟨⟨h1,h2⟩,h3⟩,h4⟩,h5⟩,h6⟩:=h;have h2:=zr.1 h2;have h3:=zr.1 h3;have h4:=zr.1 h4;have h5:=zr.1 h5;refine⟨h1,by omega,by omega,h3.1,by omega,h5.1,h5.2,h4.2,fun m hmm=>?_⟩;have h7:=h6 m hmm;unfold zO at h7;simp only[Vt,VD] at h7;obtain⟨p0,p1,p2,p3,p4⟩:=hm m hmm;have h8:=TI mM hmm;refine⟨h7.1.1,?_,p0,p1,p2,p3,p4⟩;unfold zQ at hsz;unfold mM at h8;unfold mM at hsz;omega
theorem Uu (w:V)(ca cb:Array Value)(ta tb:Wl):((w.alloc (U ca ta)).alloc (U cb tb)).heap[w.heap.size]?=F (U ca ta (0,0))/\((w.alloc (U ca ta)).alloc (U cb tb)).heap[w.heap.size+1]?=F (U cb tb (0,0)):=by
 refine⟨zj (Vj w _) gF,?_⟩;have h:=Vj (w.alloc (U ca ta)) (U cb tb);rw[VH] at h;exact h
theorem OD {xs:D fF} {B:Nat} {v:Value} (h:(lQ.sl 41).R w B [v] xs):∀ m∈xs,fQ m.Pc/\fQ m.Sp/\fQ m.Fp/\fQ m.fY/\fQ m.Value:=by
 intro m hm;obtain⟨k,hk⟩:=XS hm;obtain⟨A,c,rfl,_⟩:=mQ h;obtain⟨g,a0,y,ec,_,_,hy,hR,_⟩:=pz h (k:=k) (Vh.1 hk).1;have:y=m:=by rw[hk] at hy;injection hy with hy;exact hy.symm
 subst this;obtain⟨_,_,_,_,_,p0,p1,p2,_,_,p5,p6⟩:=Jf hR;exact⟨p0,p1,p2,p5,p6⟩
theorem lU.make (hF:gH nz W1 W2 [J A0 x.fo.fw.length c0,J A1 x.fo.fD.length c1,J A2 x.fo.fm.length c2,J A3 x.fu.length c3,C Z x.gM,C Z x.gO,C Z x.fW] x)(hg:fy W1 W2)(hB:∀ p∈B,W1.heap[p.1]?=F p.2) :
  ∃ S0 S3,lU B W1 (W2.alloc (U #[J A0 x.fo.fw.length c0,J A1 x.fo.fD.length c1,J A2 x.fo.fm.length c2,J A3 x.fu.length c3,C Z x.gM,C Z x.gO,C Z x.fW] 34)) W2.heap.size x A0 c0 A1 c1 A2 c2 A3 c3 S0 S3:=by
 obtain⟨S9,hO,hN,hL⟩:=hF;have a2:=Ty.jQ _ hO;obtain⟨a4,a8,S0,a5,a9,S1,a6,aa,S2,a7,ab,S3,a1,rfl,h0,h1,h2,h3,_,_,_⟩:=PN hO;simp only[XB,WP,Yv,XR] at a1;obtain⟨⟨rfl,rfl⟩,⟨rfl,rfl⟩,⟨rfl,rfl⟩,⟨rfl,rfl⟩⟩:=a1;rw[Wb] at hN;obtain⟨n1,n2,n3⟩:=hN;have a0:fy W2 (W2.alloc (U #[J A0 x.fo.fw.length c0,J A1 x.fo.fD.length c1,J A2 x.fo.fm.length c2,J A3 x.fu.length c3,C Z x.gM,C Z x.gO,C Z x.fW] 34)):=(fy.refl _).alloc _;have a3:=hg.size;refine⟨S0++S1++S2,S3,Vj W2 _,Has.fH ⟨EO h0 h1 h2,n1⟩ a0,Has.fH ⟨h3,n2⟩ a0,fun b hb hm=>n3 b hb b hm rfl,fun hm=>?_,fun hm=>?_,hg.trans a0,a3,fun b hb=>hL b (VN _ hb),fun b hb=>hL b (VV _ hb),fun p hp=>?_⟩
 ·have:=a2 _ (VN _ hm);omega
 ·have:=a2 _ (VV _ hm);omega
 ·have h1:=hB p hp
  have hl:=(blt h1)
  refine⟨zj (zj h1 hg) a0,fh,fun hm=>?_,fun hm=>?_⟩
  ·have:=hL _ (VN _ hm);omega
  ·have:=hL _ (VV _ hm);omega
theorem lU.whole (h:lU B Y W gp x A0 c0 A1 c1 A2 c2 A3 c3 S0 S3)(ht:fQ x.gM)(hl:fQ x.gO)(hs:fQ x.fW) :
  Has nz W [J A0 x.fo.fw.length c0,J A1 x.fo.fD.length c1,J A2 x.fo.fm.length c2,J A3 x.fu.length c3,C Z x.gM,C Z x.gO,C Z x.fW] x (S0++S3)/\(∀ b∈S0++S3,Y.heap.size<=b)/\∀ p∈B,p.1∉S0++S3:=by
 refine⟨⟨Cl h.sp.1 h.th.1 ht hl hs,Wb.2 ⟨h.sp.2,h.th.2,fun a ha b hb he=>h.lG a ha (he ▸ hb)⟩⟩,fun b hb=>?_,fun p hp hm=>?_⟩
 ·rcases VA.1 hb with h1 | h1
  ·exact h.l0 b h1
  ·exact h.l3 b h1
 ·obtain⟨_,_,h3,h4⟩:=h.kb p hp
  rcases VA.1 hm with h1 | h1
  ·exact h3 h1
  ·exact h4 h1
def oR:Nat->gB->D Int->gB × D Int
 | 0,x,ts=>(x,ts)
 | f+1,x,ts=>if (oB x).2<0 then ((oB x).1,ts) else oR f (oB x).1 (ts++[(oB x).2])
def tK (x:gB)(limit:Int):gB × D Int:=if km x=H/\gE limit 0 3000=H then oR limit.toNat x [] else (x,[])
theorem KE:∀(f:Nat)(x:gB)(ts:D Int),zQ (oR f x ts).1<=zQ x+f/\(oR f x ts).2.length<=ts.length+f
 | 0,x,ts=>⟨Vz _,Vz _⟩
 | f+1,x,ts=>by
  have h:=Kx x;unfold oR;split
  ·exact⟨by show zQ (oB x).1<=_;omega,by show ts.length<=_;omega⟩
  ·have h2:=KE f (oB x).1 (ts++[(oB x).2])
   have h3:(ts++[(oB x).2]).length=ts.length+1:=gm;omega
theorem Kw (x:gB):∀(f k:Nat),-1<=(oz x f k).2/\(oz x f k).2<=x.fu.length
 | 0,k=>⟨by show (-1:Int)<=-1;omega,by show (-1:Int)<=_;omega⟩
 | f+1,k=>by
  cases hm:x.fu[(x.gM.toNat+k) % x.fu.length]? with
  | none=>
   have h:oz x (f+1) k=(x,-1):=by rw[oz,hm]
   rw[h];exact⟨by show (-1:Int)<=-1;omega,by show (-1:Int)<=_;omega⟩
  | some m=>
   by_cases hs:m.fY=0
   ·rw[CN hm hs]
    have h1:=(Vh.1 hm).1;exact⟨by simp only;omega,by simp only;omega⟩
   ·rw[CE hm hs]
    exact Kw x f (k+1)
theorem TR (x:gB) : -1<=(oB x).2/\(oB x).2<=x.fu.length:=Kw x _ _
section
variable {B:D (Nat × Obj)} {Y W W':V} {gp:Nat} {x:gB} {A0 A1 A2 A3:N VQ} {c0 c1 c2 c3:Nat} {S0 S3:D Nat}
theorem lU.drop {B':D (Nat × Obj)} (h:lU B Y W gp x A0 c0 A1 c1 A2 c2 A3 c3 S0 S3)(hs:∀ p∈B',p∈B):lU B' Y W gp x A0 c0 A1 c1 A2 c2 A3 c3 S0 S3:=
 ⟨h.box,h.sp,h.th,h.lG,h.g0,h.g3,h.fH,h.lg,h.l0,h.l3,fun p hp=>h.kb p (hs p hp)⟩
theorem lU.only (h:lU B Y W gp x A0 c0 A1 c1 A2 c2 A3 c3 S0 S3)(ho:fG L W W')(hL:∀ b∈L,b≠gp/\b∉S0/\b∉S3/\Y.heap.size<=b/\∀ p∈B,p.1≠b):lU B Y W' gp x A0 c0 A1 c1 A2 c2 A3 c3 S0 S3:=
 ⟨(ho.block gp (blt h.box) (fun hm=>(hL gp hm).1 rfl)).trans h.box,h.sp.gu ho (fun b hb hm=>(hL b hm).2.1 hb),h.th.gu ho (fun b hb hm=>(hL b hm).2.2.1 hb),h.lG,h.g0,h.g3,ho.fH h.fH (fun b hb=>(hL b hb).2.2.2.1),h.lg,h.l0,h.l3,fun p hp=>by
  obtain⟨h1,h2⟩:=h.kb p hp
  exact⟨(ho.block p.1 (blt h1) (fun hm=>(hL p.1 hm).2.2.2.2 p hp rfl)).trans h1,h2⟩⟩
def Mo (W:V)(L:D Nat):D (Nat × Obj):=L.map fun b=>(b,(W.heap[b]?).getD (U #[] 0 (0,0)))
theorem lU.beside (h:lU B Y W gp x A0 c0 A1 c1 A2 c2 A3 c3 S0 S3)(hL:∀ b∈L,b<W.heap.size/\b≠gp/\b∉S0/\b∉S3):lU (Mo W L++B) Y W gp x A0 c0 A1 c1 A2 c2 A3 c3 S0 S3:=
 ⟨h.box,h.sp,h.th,h.lG,h.g0,h.g3,h.fH,h.lg,h.l0,h.l3,fun p hp=>by
  rcases VA.1 hp with h1 | h1
  ·obtain⟨b,hb,rfl⟩:=Yc.1 h1
   obtain⟨q0,q1,q2,q3⟩:=hL b hb;refine⟨?_,q1,q2,q3⟩;show W.heap[b]?=F ((W.heap[b]?).getD _);rw[X7 q0];rfl
  ·exact h.kb p h1⟩
theorem Has.beside {α:Type} {T:Ty α} {y:α} {x':gB} {A0' A1' A2' A3':N VQ} {c0' c1' c2' c3':Nat} {S0' S3':D Nat} (hH:Has T W cs y L)(hP:lU (Mo W L++B) Y W' gp x' A0' c0' A1' c1' A2' c2' A3' c3' S0' S3') :
  Has T W' cs y L/\∀ b∈L,b<W'.heap.size/\b≠gp/\b∉S0'/\b∉S3':=by
 have hk:∀ b∈L,W'.heap[b]?=W.heap[b]?/\b≠gp/\b∉S0'/\b∉S3':=fun b hb=>by
  obtain⟨h1,h2,h3,h4⟩:=hP.kb (b,(W.heap[b]?).getD (U #[] 0 (0,0))) (VN _ (Yc.2 ⟨b,hb,rfl⟩));refine⟨?_,h2,h3,h4⟩;have hl:=hH.lt b hb;rw[h1];show F ((W.heap[b]?).getD _)=W.heap[b]?;rw[X7 hl];rfl
 refine⟨⟨T.iA hH.1 (fun b hb=>(hk b hb).1),hH.2⟩,fun b hb=>⟨?_,(hk b hb).2⟩⟩;have h1:=(hk b hb).1;have hl:=hH.lt b hb;rw[X7 hl] at h1;exact(blt h1)
end
def KH:Value->Nat
 | J _ n _=>n
 | _=>0
def R7 (p:gB × D Int)(w:V)(e:Z9)(w':V):Prop:=∃ A0 c0 A1 c1 A2 c2 A3 c3 A4 c4 S0 S1,e=.returned (.tuple #[.agg #[J A0 p.1.fo.fw.length c0,J A1 p.1.fo.fD.length c1,J A2 p.1.fo.fm.length c2,J A3 p.1.fu.length c3,C Z p.1.gM,C Z p.1.gO,C Z p.1.fW],J A4 p.2.length c4])/\
 Has nz w' [J A0 p.1.fo.fw.length c0,J A1 p.1.fo.fD.length c1,J A2 p.1.fo.fm.length c2,J A3 p.1.fu.length c3,C Z p.1.gM,C Z p.1.gO,C Z p.1.fW] p.1 S0/\Has (zv.sl 3) w' [J A4 p.2.length c4] p.2 S1/\(∀ b∈S0,b∉S1)/\(∀ b∈S0,w.heap.size<=b)/\(∀ b∈S1,w.heap.size<=b)/\fy w w'
theorem Sn (h:jm m v=F m'):0<=m'.Sp/\m'.Sp<=1200/\m'.fY=m.fY/\m'.fK.length=m.fK.length:=by
 unfold jm at h;split at h
 ·rename_i hb
  have hb:=zr.1 hb;injection h with h
  subst h;exact⟨by simp only;omega,by simp only;omega,rfl,gm⟩
 ·cases h
theorem Th {p:fF × Int} (h:iR m=F p):0<=p.1.Sp/\p.1.Sp<=1200/\p.1.fY=m.fY/\p.1.fK.length=m.fK.length:=by
 unfold iR mW at h;split at h
 ·rename_i hb
  have hb:=zr.1 hb;cases hs:m.fK[m.Sp.toNat]? with
  | none=>rw[hs] at h;cases h
  | some v=>rw[hs] at h;injection h with h;subst h;exact⟨by simp only;omega,by simp only;omega,rfl,rfl⟩
 ·cases h
def qz (st:Int)(m:fF):Prop:=m.fK.length=1200/\0<=m.Sp/\m.Sp<=1200/\m.fY=st
theorem uZ (hl:m.fK.length=1200/\m.fY=st)(h:jm m v=F m'):qz st m':=by
 have:=Sn h;unfold qz;omega
theorem sG {p:fF × Int} (hl:m.fK.length=1200/\m.fY=st)(h:iR m=F p):qz st p.1:=by
 have:=Th h;unfold qz;omega
theorem Lk (hl:qz st m)(h:nI m a v=F m'):qz st m':=by
 unfold nI at h;split at h
 ·injection h with h
  subst h;obtain⟨h1,h2,h3,h4⟩:=hl;exact⟨by simpa using h1,h2,h3,h4⟩
 ·cases h
theorem C5 {st:Int}:∀(n:Nat){m m':fF},qz st m->kt n m=F m'->qz st m'
 | 0,m,m',hm,h=>by injection h with h;subst h;exact hm
 | n+1,m,m',hm,h=>by
  obtain⟨p,hp,h2⟩:=VG.1 h;exact C5 n (sG ⟨hm.1,hm.2.2.2⟩ hp) h2
theorem E9 {st:Int}:∀(n:Nat){m m':fF},qz st m->qR n m=F m'->qz st m'
 | 0,m,m',hm,h=>by injection h with h;subst h;exact hm
 | n+1,m,m',hm,h=>by
  obtain⟨p,hp,h2⟩:=VG.1 h;exact E9 n (uZ ⟨hm.1,hm.2.2.2⟩ hp) h2
theorem qz.two (h:qz st m):m.fK.length=1200/\m.fY=st:=⟨h.1,h.2.2.2⟩
theorem OT {c:Int} (hm:qz st m)(h:zR es m c a=F m'):qz st m':=by
 unfold zR at h;by_cases q0:c=0
 ·rw[Vs q0] at h
  exact uZ hm.two h
 rw[Vo q0] at h;by_cases q1:c=1
 ·rw[Vs q1] at h
  obtain⟨v,_,h2⟩:=VG.1 h;exact uZ hm.two h2
 rw[Vo q1] at h;by_cases q3:c=3
 ·rw[Vs q3] at h
  obtain⟨v,_,h2⟩:=VG.1 h;exact uZ hm.two h2
 rw[Vo q3] at h;by_cases q2:c=2
 ·rw[Vs q2] at h
  obtain⟨p,h1,h2⟩:=VG.1 h;exact Lk (sG hm.two h1) h2
 rw[Vo q2] at h;by_cases q4:c=4
 ·rw[Vs q4] at h
  obtain⟨p,h1,h2⟩:=VG.1 h;exact Lk (sG hm.two h1) h2
 rw[Vo q4] at h;by_cases q10:c=10
 ·rw[Vs q10] at h
  injection h with h
  subst h;exact hm
 rw[Vo q10] at h;by_cases q11:c=11
 ·rw[Vs q11] at h
  obtain⟨p,h1,h2⟩:=WV.1 h;have h3:=sG hm.two h1;subst h2;split <;> exact h3
 rw[Vo q11] at h;by_cases q12:c=12
 ·rw[Vs q12] at h
  obtain⟨p,h1,h2⟩:=VG.1 h;obtain⟨e,_,h4⟩:=WV.1 h2;subst h4;exact uZ (m':=p) hm.two h1
 rw[Vo q12] at h;by_cases q13:c=13
 ·rw[Vs q13] at h
  obtain⟨p,h1,h2⟩:=VG.1 h;exact E9 _ (m:={ p with Fp:=p.Sp }) (uZ (m':=p) hm.two h1) h2
 rw[Vo q13] at h;by_cases q15:c=15
 ·rw[Vs q15] at h
  exact E9 _ hm h
 rw[Vo q15] at h;by_cases q14:c=14
 ·rw[Vs q14] at h
  obtain⟨p,h1,h⟩:=VG.1 h;obtain⟨q,h2,h⟩:=VG.1 h;obtain⟨r,h3,h⟩:=VG.1 h;obtain⟨d,h4,h5⟩:=VG.1 h;have k1:=sG hm.two h1;have k2:=sG (m:={ p.1 with Sp:=p.1.Fp }) k1.two h2;have k3:=sG (m:={ q.1 with Fp:=q.2 }) k2.two h3;have k4:=C5 _ (m:={ r.1 with Pc:=r.2 }) k3 h4;exact uZ k4.two h5
 rw[Vo q14] at h;by_cases q16:c=16
 ·rw[Vs q16] at h
  obtain⟨p,h1,h⟩:=VG.1 h;obtain⟨q,h2,h⟩:=VG.1 h;obtain⟨r,h3,h⟩:=VG.1 h;obtain⟨d,h4,h5⟩:=VG.1 h;have k1:=sG hm.two h1;have k2:=C5 _ k1 h2;have k3:=sG k2.two h3;have k4:=C5 _ (m:={ r.1 with Pc:=r.2 }) k3 h4;exact uZ k4.two h5
 rw[Vo q16] at h;by_cases q17:c=17
 ·rw[Vs q17] at h
  obtain⟨p,h1,h2⟩:=WV.1 h;have h3:=sG hm.two h1;subst h2;exact h3
 rw[Vo q17] at h;obtain⟨p,h1,h⟩:=VG.1 h;obtain⟨q,h2,h3⟩:=VG.1 h;exact uZ (sG (sG hm.two h1).two h2).two h3
theorem Bj:zO m=H↔m.fK.length=1200/\(0<=m.Sp/\m.Sp<=1200)/\0<=m.fY/\m.fY<=2:=by
 unfold zO;rw[Vt,Vt,VD,zr,zr];exact Zp
theorem MM (s:gQ){m:fF}(h:zO m=H):zO (mC s m)=H:=by
 obtain⟨h1,h2,h3,h4⟩:=Bj.1 h;have a0:zO { m with fY:=2 }=H:=Bj.2 ⟨h1,h2,gm,gm⟩;unfold mC;simp only;split
 ·exact a0
 ·rename_i i _
  split
  ·cases hp:(zR s.fm { m with Pc:=m.Pc+((ku i.Code (loc s m.Pc).2).n:Int) } (ku i.Code (loc s m.Pc).2).code (ku i.Code (loc s m.Pc).2).arg).bind oW with
   | none=>exact a0
   | some m'=>
    obtain⟨m1,g1,g2⟩:=VG.1 hp;have g3:=OT (st:=m.fY) (show qz m.fY { m with Pc:=m.Pc+((ku i.Code (loc s m.Pc).2).n:Int) } from⟨h1,h2.1,h2.2,rfl⟩) g1;obtain⟨k1,k2,k3,k4⟩:=g3;unfold oW at g2;split at g2
    ·obtain⟨v,_,g4⟩:=WV.1 g2
     subst g4;exact Bj.2 ⟨k1,⟨k2,k3⟩,gm,gm⟩
    ·injection g2 with g2
     subst g2;exact Bj.2 ⟨k1,⟨k2,k3⟩,by show 0<=m1.fY;omega,by show m1.fY<=2;omega⟩
  ·exact a0
def yK (s:gQ):Nat->fF->Nat->fF × Nat
 | 0,m,n=>(m,n)
 | f+1,m,n=>if m.fY=0 then yK s f (mC s m) (n+1) else (m,n)
theorem KF (s:gQ):∀(f:Nat)(m:fF)(n k:Nat),(yK s f m n).1=(yK s f m k).1
 | 0,_,_,_=>rfl
 | f+1,m,n,k=>by
  unfold yK;split
  ·exact KF s f _ _ _
  ·rfl
theorem Hi (x:gB):∀(f k:Nat),((oz x f k).1=x/\(oz x f k).2 = -1)∨∃(t:Nat)(m:fF)(mv:Bool),x.fu[t]?=F m/\m.fY=0/\oz x f k=(vn x t m mv,(t:Int))
 | 0,k=>.inl ⟨rfl,rfl⟩
 | f+1,k=>by
  cases hm:x.fu[(x.gM.toNat+k) % x.fu.length]? with
  | none=>
   have h:oz x (f+1) k=(x,-1):=by rw[oz,hm]
   rw[h];exact .inl ⟨rfl,rfl⟩
  | some m=>
   by_cases hs:m.fY=0
   ·exact .inr ⟨_,m,_,hm,hs,CN hm hs⟩
   ·rw[CE hm hs]
    exact Hi x f (k+1)
theorem EQ (x:gB):((oB x).1=x/\(oB x).2 = -1)∨∃(t:Nat)(m:fF)(mv:Bool),x.fu[t]?=F m/\m.fY=0/\oB x=(vn x t m mv,(t:Int)):=Hi x _ _
def vz (l:D Int)(t:Int):Nat:=(l.filter fun k=>decide (k=t)).length
theorem If:∀(f:Nat)(x:gB)(ts:D Int),∃ l,(oR f x ts).2=ts++l/\l.length<=f/\(oR f x ts).1.fo=x.fo/\(oR f x ts).1.fW=x.fW/\(oR f x ts).1.fu.length=x.fu.length/\
  ∀(t:Nat) (m:fF),x.fu[t]?=F m->(oR f x ts).1.fu[t]?=F (yK x.fo (vz l t) m 0).1
 | 0,x,ts=>⟨[],by simp[oR],Vz _,rfl,rfl,rfl,fun t m h=>h⟩
 | f+1,x,ts=>by
  unfold oR;rcases EQ x with⟨h1,h2⟩ | ⟨t,m,mv,hm,hs,ht⟩
  ·rw[Vs fh,h1]
   exact⟨[],gm,Vu _,rfl,rfl,rfl,fun t m h=>h⟩
  ·rw[ht]
   simp only;rw[Vo fh];obtain⟨l,g1,g0,g2,g3,g4,g5⟩:=If f (vn x t m mv) (ts++[(t:Int)]);have a0:(vn x t m mv).fu=x.fu.set t (mC x.fo m):=rfl;refine⟨(t:Int)::l,by rw[g1];simp,by simp;omega,g2,g3,by rw[g4,a0,VY],fun u mu hu=>?_⟩;by_cases hut:u=t
   ·subst hut
    rw[hm] at hu;injection hu with hu
    subst hu;have:=g5 u (mC x.fo m) (by rw[a0,WU (Vh.1 hm).1]);rw[this];congr 1;show (yK x.fo (vz l u) (mC x.fo m) 0).1=_;have ho:vz ((u:Int)::l) u=vz l u+1:=by simp[vz]
    rw[ho];show _=(if m.fY=0 then yK x.fo (vz l u) (mC x.fo m) (0+1) else (m,0)).1;rw[Vs hs];exact KF _ _ _ _ _
   ·have:=g5 u mu (by rw[a0,Wy fh];exact hu)
    rw[this]
    have ho:vz ((t:Int)::l) u=vz l u:=by
     unfold vz;rw[List.filter_cons_of_neg (by simp;omega)]
    rw[ho];rfl
theorem CK:km x=H↔ke x.fo=H/\(1<=x.fu.length/\x.fu.length<=3)/\(0<=x.gM/\x.gM<x.fu.length)/\(1<=x.fW/\x.fW<=1000)/\(1<=x.gO/\x.gO<=x.fW)/\∀ m∈x.fu,zO m=H:=by
 unfold km;simp only[Vt,zr,Xm];constructor
 ·rintro⟨⟨⟨⟨⟨h1,h2⟩,h3⟩,h4⟩,h5⟩,h6⟩
  exact⟨h1,fh,fh,h4,h5,h6⟩
 ·rintro⟨h1,h2,h3,h4,h5,h6⟩
  exact⟨⟨⟨⟨⟨h1,fh⟩,fh⟩,h4⟩,h5⟩,h6⟩
theorem Ru {mv:Bool} (h:km x=H)(hm:x.fu[t]?=F m):km (vn x t m mv)=H:=by
 obtain⟨h1,h2,h3,h4,h5,h6⟩:=CK.1 h;have a1:=(Vh.1 hm).1;have hn:(x.fu.set t (mC x.fo m)).length=x.fu.length:=VY;have h7:(t+1) % x.fu.length<x.fu.length:=Y6 _ fh;obtain⟨left,hl⟩:∃ l:Int,(if mv=H then x.fW else x.gO)-1=l:=⟨_,rfl⟩
 have a0:0<=left/\left<x.fW:=by
  cases mv with
  | true=>rw[Vs rfl] at hl;omega
  | false=>rw[Vo gm] at hl;omega
 rw[Ct hl];refine CK.2 ⟨h1,by rw[hn];exact h2,?_,h4,?_,fun y hy=>?_⟩
 ·simp only[hn];split <;> omega
 ·simp only;split <;> omega
 ·rcases Xg hy with hy | rfl
  ·exact h6 y hy
  ·exact MM _ (h6 m (Vx hm))
theorem Iw:∀(f:Nat)(x:gB)(ts:D Int),km x=H->km (oR f x ts).1=H
 | 0,x,ts,h=>h
 | f+1,x,ts,h=>by
  unfold oR;rcases EQ x with⟨h1,h2⟩ | ⟨t,m,mv,hm,hs,ht⟩
  ·rw[Vs fh,h1]
   exact h
  ·rw[ht]
   simp only;rw[Vo fh];exact Iw f _ _ (Ru h hm)
structure PG where
 nf:Nat
 iM:Nat->D fX
 jN:Nat->D Int
 env:Nat->gw
 jM:Nat->Nat->Int
 na:Nat->Int
structure kP (s:gQ)(Vf:PG):Prop where
 AX:∀ f,f<Vf.nf->s.fm[f]?=F (Vf.jM f 0)
 kG:∀ f,f<Vf.nf->lm (Vf.env f) (Vf.iM f) (Vf.jN f)
 first:∀ f,f<Vf.nf->∃ x,(Vf.iM f)[0]?=F x/\(x.Op.Code=13∨x.Op.Code=15)
 args:∀ f,f<Vf.nf->(Vf.env f).args=Vf.na f/\0<=Vf.na f/\Vf.na f<=4/\0<=(Vf.env f).fO
 Ms:∀ f,f<Vf.nf->(zn (Vf.env f).p).length=Vf.nf/\∀ g:Nat,tD (Vf.env f).p g=Vf.na g
 main:0<Vf.nf/\Vf.na 0=0
 code:∀ f,f<Vf.nf->∀(j:Nat) (x:fX),(Vf.iM f)[j]?=F x->(kE s (Vf.jM f j)).ok=H/\(kE s (Vf.jM f j)).code=x.Op.Code/\Vf.jM f j+(kE s (Vf.jM f j)).n=Vf.jM f (j+1)/\
  (oO x.Op.Code=H->∀ t:Nat,x.Op.iz=t->Vf.jM f (j+1)+(kE s (Vf.jM f j)).arg=Vf.jM f t)/\(oO x.Op.Code=M->(kE s (Vf.jM f j)).arg=x.Op.iz)
 lit:∀ f,f<Vf.nf->∀(j:Nat) (x:fX),(Vf.iM f)[j]?=F x->x.Op.Code=0->0<=x.Op.iz/\x.Op.iz<=999
 ym:∀ f,f<Vf.nf->∀ j,j<=(Vf.iM f).length->1<=Vf.jM f j/\Vf.jM f j<=2000000
inductive pu (Vf:PG) (st:D Int):Int->Int->Nat->D (Nat × Nat)->Prop
 | main:st[1199]?=F 0->pu Vf st 1199 1200 0 []
 | yY {R fp d:Int} {f g jc:Nat} {fr:D (Nat × Nat)} {x:fX}:0<=R->st[R.toNat]?=F (Vf.jM g (jc+1))->g<Vf.nf->(Vf.iM g)[jc]?=F x->x.Op.Code=12->x.Op.iz=f->(Vf.jN g)[jc]?=F d->(Vf.env g).gT=M->pu Vf st (R+1+d) fp g fr->pu Vf st R fp f ((g,jc)::fr)
 | yW {R fp d:Int} {f g jc:Nat} {fr:D (Nat × Nat)} {x:fX}:0<=R->st[R.toNat]?=F (Vf.jM g (jc+1))->g<Vf.nf->(Vf.iM g)[jc]?=F x->x.Op.Code=12->x.Op.iz=f->(Vf.jN g)[jc]?=F d->(Vf.env g).gT=H->st[(R+1+d).toNat]?=F fp->pu Vf st (R+1+d+1) fp g fr->pu Vf st R (R+1+d) f ((g,jc)::fr)
inductive mi (Vf:PG) (st:D Int):Bool->Int->Int->Nat->D (Nat × Nat)->Prop
 | off {B Fp:Int} {f:Nat} {fr:D (Nat × Nat)}:pu Vf st B Fp f fr->mi Vf st M B Fp f fr
 | on {B fp:Int} {f:Nat} {fr:D (Nat × Nat)}:0<=B->st[B.toNat]?=F fp->pu Vf st (B+1) fp f fr->mi Vf st H B B f fr
theorem kP.callee {Vf:PG} (hG:kP s Vf){g jc:Nat}{f:Nat}{x:fX}{d:Int}(hg:g<Vf.nf)(hx:(Vf.iM g)[jc]?=F x)(h12:x.Op.Code=12)(ha:x.Op.iz=f)(hd:(Vf.jN g)[jc]?=F d):f<Vf.nf/\Vf.na f<=d/\0<=d/\0<jc/\(Vf.jN g)[jc+1]?=F (d-Vf.na f+1)/\jc+1<(Vf.iM g).length:=by
 have h:=hG.kG g hg;obtain⟨h1,h2,h3⟩:=(h.it jc x d hx hd).call h12;obtain⟨h4,h5⟩:=hG.Ms g hg;rw[ha,h5 f] at h3
 have h0:jc≠0:=fun e=>by
  subst e;obtain⟨y,hy,h⟩:=hG.first g hg;rw[hx] at hy;injection hy with hy
  subst hy;omega
 have h6:=h.om jc x d hx hd (by rw[h12];rfl)
 have h7:jX (Vf.env g).p x.Op d=d-Vf.na f+1:=by
  unfold jX;rw[Vo fh,Vo fh,Vs h12,ha,h5 f]
 rw[h7] at h6;exact⟨fh,h3,(h.it jc x d hx hd).pos,fh,h6,by rw[<-h.len];exact(Vh.1 h6).1⟩
theorem pu.fn {Vf:PG} (hG:kP s Vf){st:D Int}{R fp:Int}{f:Nat}{fr:D (Nat × Nat)}(h:pu Vf st R fp f fr):f<Vf.nf/\0<=Vf.na f:=by
 have:f<Vf.nf:=by
  cases h with
  | main=>exact hG.main.1
  | yY h1 h2 h3 h4 h5 h6 h7=>exact(hG.callee h3 h4 h5 h6 h7).1
  | yW h1 h2 h3 h4 h5 h6 h7=>exact(hG.callee h3 h4 h5 h6 h7).1
 exact⟨this,(hG.args f this).2.1⟩
theorem pu.vF {Vf:PG} (hG:kP s Vf){st:D Int}{R fp:Int}{f:Nat}{fr:D (Nat × Nat)}(h:pu Vf st R fp f fr):0<=R/\R<=1199/\0<=fp/\fp<=1200/\R<fp:=by
 induction h with
 | main=>omega
 | yY h1 h2 h3 h4 h5 h6 h7 h8 h9 ih=>
  have:=(hG.callee h3 h4 h5 h6 h7).2.2.1;omega
 | yW h1 h2 h3 h4 h5 h6 h7 h8 h9 h10 ih=>
  have:=(hG.callee h3 h4 h5 h6 h7).2.2.1;omega
theorem pu.gu {Vf:PG} (hG:kP s Vf){st st':D Int}{R fp:Int}{f:Nat}{fr:D (Nat × Nat)}(h:pu Vf st R fp f fr):(∀ a:Nat,((a:Int)=R∨R+Vf.na f<a)->st'[a]?=st[a]?)->pu Vf st' R fp f fr:=by
 induction h with
 | main h=>intro hs;exact .main (by rw[hs 1199 (.inl rfl)];exact h)
 | yY h1 h2 h3 h4 h5 h6 h7 h8 h9 ih=>
  intro hs;obtain⟨g1,g2,g3,g4,_⟩:=hG.callee h3 h4 h5 h6 h7;have g5:=(hG.args _ g1).2.1;have g6:=(hG.args _ h3).2.1;exact .yY h1 (by rw[hs _ (.inl (by omega))];exact h2) h3 h4 h5 h6 h7 h8 (ih fun a ha=>hs a (.inr (by omega)))
 | yW h1 h2 h3 h4 h5 h6 h7 h8 h9 h10 ih=>
  intro hs;obtain⟨g1,g2,g3,g4,_⟩:=hG.callee h3 h4 h5 h6 h7;have g5:=(hG.args _ g1).2.1;have g6:=(hG.args _ h3).2.1;exact .yW h1 (by rw[hs _ (.inl (by omega))];exact h2) h3 h4 h5 h6 h7 h8 (by rw[hs _ (.inr (by omega))];exact h9) (ih fun a ha=>hs a (.inr (by omega)))
theorem mi.gu {s:gQ}{Vf:PG}(hG:kP s Vf){st st':D Int}{fd:Bool}{B Fp:Int}{f:Nat}{fr:D (Nat × Nat)}(h:mi Vf st fd B Fp f fr)(hs:∀ a:Nat,B<=(a:Int)->((a:Int)<=(if fd=H then B+1 else B)∨(if fd=H then B+1 else B)+Vf.na f<a)->st'[a]?=st[a]?):mi Vf st' fd B Fp f fr:=by
 cases h with
 | off h=>
  have g:=h.fn hG;refine .off (h.gu hG fun a ha=>hs a fh ?_);simp only[WX,Yn];omega
 | on h1 h2 h3=>
  have g:=h3.fn hG;refine .on h1 (by rw[hs _ fh (.inl (by simp;omega))];exact h2) (h3.gu hG fun a ha=>hs a fh ?_);simp only[Xe];omega
theorem mi.vF {s:gQ}{Vf:PG}(hG:kP s Vf){st:D Int}{fd:Bool}{B Fp:Int}{f:Nat}{fr:D (Nat × Nat)}(h:mi Vf st fd B Fp f fr):0<=B/\B<=1199/\0<=Fp/\Fp<=1200/\f<Vf.nf:=by
 cases h with
 | off h=>have:=h.vF hG;have:=(h.fn hG).1;omega
 | on h1 h2 h3=>have:=h3.vF hG;have:=(h3.fn hG).1;omega
def lE (Vf:PG)(f j:Nat):Bool:=(Vf.env f).gT && decide (0<j)
def jj (v:Int):Prop:=-4294967296<=v/\v<=4294967296
structure Inv (Vf:PG)(m:fF)(f j:Nat)(fr:D (Nat × Nat)):Prop where
 pc:m.Pc=Vf.jM f j
 sp:0<=m.Sp/\m.Sp<=1200
 len:m.fK.length=1200
 sm:∀ v∈m.fK,jj v
 base:∃ d x,(Vf.iM f)[j]?=F x/\(Vf.jN f)[j]?=F d/\mi Vf m.fK (lE Vf f j) (m.Sp+d) m.Fp f fr
theorem tO {g:Prop} (f:g:=by
  split at h
  ·rename_i hb
   have hb:=zr.1 hb
   injection h with h
   exact⟨hb.1,hb.2,h.symm⟩
  ·cases h):g:=f
theorem yw (h:jm m v=F m'):1<=m.Sp/\m.Sp<=1200/\m' = { m with Sp:=m.Sp-1,fK:=m.fK.set (m.Sp-1).toNat v }:=by
 unfold jm at h;exact tO
theorem K9 (h:mW m a=F v):0<=a/\a<=1199/\m.fK[a.toNat]?=F v:=by
 unfold mW at h;split at h
 ·rename_i hb
  have hb:=zr.1 hb;exact⟨hb.1,hb.2,h⟩
 ·cases h
theorem sD {p:fF × Int} (h:iR m=F p):0<=m.Sp/\m.Sp<=1199/\m.fK[m.Sp.toNat]?=F p.2/\p.1 = { m with Sp:=m.Sp+1 }:=by
 unfold iR at h;cases ha:mW m m.Sp with
 | none=>rw[ha] at h;cases h
 | some v=>
  rw[ha] at h;injection h with h
  subst h;obtain⟨h1,h2,h3⟩:=K9 ha;exact⟨h1,h2,h3,rfl⟩
theorem Ks (h:nI m a v=F m'):0<=a/\a<=1199/\m' = { m with fK:=m.fK.set a.toNat v }:=by
 unfold nI at h;exact tO
theorem CR:∀(n:Nat){m m':fF},kt n m=F m'->0<=m.Sp->m' = { m with Sp:=m.Sp+n }/\(m.Sp<=1200->m.Sp+n<=1200)
 | 0,m,m',h,_=>by injection h with h;subst h;exact⟨gm,fun h=>fh⟩
 | n+1,m,m',h,h0=>by
  unfold kt at h;cases hp:iR m with
  | none=>rw[hp] at h;cases h
  | some p=>
   rw[hp] at h;obtain⟨h1,h2,h3,h4⟩:=sD hp;have h5:kt n p.1=F m':=h;obtain⟨h6,h7⟩:=CR n h5 (by rw[h4];simp only;omega);rw[h4] at h6 h7;simp only at h6 h7;refine⟨?_,fun _=>by have:=h7 fh;omega⟩;rw[h6];congr 1;omega
def SW (st st':D Int)(B:Int):Prop:=∀ a:Nat,B<=(a:Int)->st'[a]?=st[a]?
theorem EJ:∀(n:Nat){m m':fF},qR n m=F m'->m'.Sp=m.Sp-n/\(m.Sp<=1200->0<=m.Sp->0<=m'.Sp)/\m'.Fp=m.Fp/\m'.Pc=m.Pc/\m'.fY=m.fY/\m'.fK.length=m.fK.length/\SW m.fK m'.fK m.Sp/\((∀ v∈m.fK,jj v)->∀ v∈m'.fK,jj v)
 | 0,m,m',h=>by injection h with h;subst h;exact⟨gm,fun _ h=>h,rfl,rfl,rfl,rfl,fun _ _=>rfl,fun h=>h⟩
 | n+1,m,m',h=>by
  unfold qR at h;cases hp:jm m 0 with
  | none=>rw[hp] at h;cases h
  | some q=>
   rw[hp] at h;obtain⟨h1,h2,h4⟩:=yw hp;have h5:qR n q=F m':=h;obtain⟨g1,g2,g3,g4,g5,g6,g7,g8⟩:=EJ n h5;rw[h4] at g1 g2 g3 g4 g5 g6 g7 g8;simp only at g1 g2 g3 g4 g5 g6 g7 g8;refine⟨fh,fun _ _=>g2 fh fh,g3,g4,g5,by rw[g6];simp,fun a ha=>?_,fun hs=>g8 fun v hv=>?_⟩
   ·rw[g7 a fh,Wy fh]
   ·rcases Xg hv with h | rfl
    ·exact hs v h
    ·exact⟨gv,gv⟩
theorem ur {st:D Int} {i:Nat} (h:∀ v∈st,jj v)(hv:jj v):∀ w∈st.set i v,jj w:=fun w hw=>by
 rcases Xg hw with h1 | rfl
 ·exact h w h1
 ·exact hv
theorem Ge (n:Int) : -2147483648<=kW n/\kW n<=2147483647:=by unfold kW;omega
theorem NU (c a b:Int):jj (kS c a b):=by
 unfold kS jj;have h1:=Ge (kW a+kW b);have h2:=Ge (kW a-kW b);have h3:=Ge (kW a*kW b);split
 ·omega
 ·split
  ·omega
  ·split
   ·omega
   ·split
    ·split <;> omega
    ·split
     ·split <;> omega
     ·omega
theorem Inv.go {Vf:PG} (hG:kP s Vf){m m':fF}{f j j':Nat}{fr:D (Nat × Nat)}{d d':Int}(hd:(Vf.jN f)[j']?=F d')(hfd:lE Vf f j'=lE Vf f j)(hb:mi Vf m.fK (lE Vf f j) (m.Sp+d) m.Fp f fr)(hf:f<Vf.nf)
  (hpc:m'.Pc=Vf.jM f j') (hsp:0<=m'.Sp/\m'.Sp<=1200) (hlen:m'.fK.length=1200) (hsm:∀ v∈m'.fK,jj v) (hB:m'.Sp+d'=m.Sp+d) (hFp:m'.Fp=m.Fp)
  (hst:∀ a:Nat,m.Sp+d<=(a:Int)->((a:Int)<=(if lE Vf f j=H then m.Sp+d+1 else m.Sp+d)∨(if lE Vf f j=H then m.Sp+d+1 else m.Sp+d)+Vf.na f<a)->m'.fK[a]?=m.fK[a]?):Inv Vf m' f j' fr:=by
 have hl:j'<(Vf.iM f).length:=by rw[<-(hG.kG f hf).len];exact(Vh.1 hd).1
 exact⟨hpc,hsp,hlen,hsm,d',_,Vq hl,hd,by rw[hfd,hB,hFp];exact hb.gu hG hst⟩
theorem Inv.back {Vf:PG} (hG:kP s Vf){m':fF}{st:D Int}{R fp v:Int}{f:Nat}{fr:D (Nat × Nat)}{pc:Int}(h:pu Vf st R fp f fr)(hpc:st[R.toNat]?=F pc)(hlen:st.length=1200)(hsm:∀ v∈st,jj v)(hv:jj v)
  (h1:m'.Pc=pc) (h2:m'.Sp=R+Vf.na f) (h3:m'.Fp=fp) (h4:m'.fK=st.set (R+Vf.na f).toNat v) (h5:0<=m'.Sp/\m'.Sp<=1200):(fr = []/\pc=0)∨∃ g jc fr',fr=(g,jc)::fr'/\g<Vf.nf/\jc+1<=(Vf.iM g).length/\Inv Vf m' g (jc+1) fr':=by
 have a2:=h.vF hG;have a1:=h.fn hG;cases h with
 | main h=>
  rw[show (1199:Int).toNat=1199 from rfl,h] at hpc;injection hpc with hpc
  exact .inl ⟨rfl,hpc.symm⟩
 | @yY _ _ d _ g jc fr' x k1 k2 k3 k4 k5 k6 k7 k8 k9=>
  obtain⟨c1,c2,c3,c4,c5,c6⟩:=hG.callee k3 k4 k5 k6 k7;rw[k2] at hpc;injection hpc with hpc
  have a0:lE Vf g (jc+1)=M:=by unfold lE;rw[k8];rfl
  refine .inr ⟨g,jc,fr',rfl,k3,by omega,by rw[h1,hpc],h5,by rw[h4];simpa using hlen,by rw[h4];exact ur hsm hv,_,_,Vq c6,c5,?_⟩;rw[a0,h2,h3,h4,show R+Vf.na f+(d-Vf.na f+1)=R+1+d by omega];exact .off (k9.gu hG fun a ha=>by rw[Wy];have:=(hG.args g k3).2.1;omega)
 | @yW _ fp' d _ g jc fr' x k1 k2 k3 k4 k5 k6 k7 k8 k9 k10=>
  obtain⟨c1,c2,c3,c4,c5,c6⟩:=hG.callee k3 k4 k5 k6 k7;rw[k2] at hpc;injection hpc with hpc
  have a0:lE Vf g (jc+1)=H:=by unfold lE;rw[k8];simp
  refine .inr ⟨g,jc,fr',rfl,k3,by omega,by rw[h1,hpc],h5,by rw[h4];simpa using hlen,by rw[h4];exact ur hsm hv,_,_,Vq c6,c5,?_⟩;rw[a0,h2,h3,h4,show R+Vf.na f+(d-Vf.na f+1)=R+1+d by omega];have:=(hG.args g k3).2.1;exact .on (by omega) (by rw[Wy (by omega)];exact k9) (k10.gu hG fun a ha=>by rw[Wy];omega)
structure Good (Vf:PG)(m:fF):Prop where
 pc:0<=m.Pc/\m.Pc<=2000000
 fp:0<=m.Fp/\m.Fp<=1200
 sp:0<=m.Sp/\m.Sp<=1200
 len:m.fK.length=1200
 sm:∀ v∈m.fK,jj v
 runs:m.fY=0->∃ f j fr,f<Vf.nf/\Inv Vf m f j fr
theorem Inv.rQ {Vf:PG} (hG:kP s Vf){m:fF}{f j:Nat}{fr:D (Nat × Nat)}(h:Inv Vf m f j fr)(hf:f<Vf.nf):Good Vf m:=by
 obtain⟨d,x,h1,h2,h3⟩:=h.base;have h4:=h3.vF hG;have h5:=hG.ym f hf j (by have:=(Vh.1 h1).1;omega);exact⟨by rw[h.pc];omega,fh,h.sp,h.len,h.sm,fun _=>⟨f,j,fr,hf,h⟩⟩
theorem mi.sY {Vf:PG} {st:D Int} {B:Int} (h:mi Vf st H B Fp f fr):Fp=B/\0<=B/\∃ fp,st[B.toNat]?=F fp/\pu Vf st (B+1) fp f fr:=by
 cases h with
 | on h1 h2 h3=>exact⟨rfl,h1,_,h2,h3⟩
theorem mi.oY {Vf:PG} {st:D Int} {B:Int} (h:mi Vf st M B Fp f fr):pu Vf st B Fp f fr:=by
 cases h with
 | off h=>exact h
theorem OY {Vf:PG} (hG:kP s Vf){m m':fF}{f j:Nat}{fr:D (Nat × Nat)}{x:fX}{d a:Int}(h:Inv Vf m f j fr)(hf:f<Vf.nf)(hx:(Vf.iM f)[j]?=F x)(hd:(Vf.jN f)[j]?=F d)(hb:mi Vf m.fK (lE Vf f j) (m.Sp+d) m.Fp f fr)
  (hj:oO x.Op.Code=H->∀ t:Nat,x.Op.iz=t->Vf.jM f (j+1)+a=Vf.jM f t) (ha:oO x.Op.Code=M->a=x.Op.iz) (he:zR s.fm { m with Pc:=Vf.jM f (j+1) } x.Op.Code a=F m') :
  m'.fY=m.fY/\((∃ f' j' fr',f'<Vf.nf/\Inv Vf m' f' j' fr')∨(m'.Pc=0/\fr = []/\0<=m'.Sp/\m'.Sp<=1200/\0<=m'.Fp/\m'.Fp<=1200/\m'.fK.length=1200/\∀ v∈m'.fK,jj v)):=by
 have hF:=hG.kG f hf;have aa:=hF.it j x d hx hd;have ao:=aa.code;have ay:=aa.pos;have aA:=hb.vF hG;obtain⟨a5,aw,ax,aF⟩:=hG.args f hf;have al:=h.sp;have a2:=h.len;have a3:=h.sm;have aB:=(Vh.1 hx).1;have ap:=hG.ym f hf (j+1) (by omega);have a1:∀ v:Int,jX (Vf.env f).p x.Op d=v->AR x.Op.Code=H->(Vf.jN f)[j+1]?=F v:=fun v hv hfl=>by rw[<-hv];exact hF.om j x d hx hd hfl
 have a0:x.Op.Code≠13->x.Op.Code≠15->0<j:=fun h13 h15=>by
  rcases XL j with h0 | h0
  ·subst h0
   obtain⟨y,hy,h⟩:=hG.first f hf;rw[hx] at hy;injection hy with hy
   subst hy;omega
  ·exact h0
 have af:0<j->∀ t,0<t->lE Vf f t=lE Vf f j:=fun h0 t ht=>by
  unfold lE;rw[Vv h0,Vv ht]
 have a6:0<j->lE Vf f j=(Vf.env f).gT:=fun h0=>by unfold lE;rw[Vv h0,Zh]
 have aG:∀ t:Nat,0<j->(t:Int)=x.Op.iz->oO x.Op.Code=H->True:=fun _ _ _ _=>trivial
 -- an ordinary next item
 have next:∀(m2:fF) (d':Int),0<j->(Vf.jN f)[j+1]?=F d'->m2.Pc=Vf.jM f (j+1)->0<=m2.Sp/\m2.Sp<=1200->m2.fK.length=1200->(∀ v∈m2.fK,jj v)->m2.Sp+d'=m.Sp+d->m2.Fp=m.Fp->
   (∀ b:Nat,m.Sp+d<=(b:Int)->((b:Int)<=(if lE Vf f j=H then m.Sp+d+1 else m.Sp+d)∨(if lE Vf f j=H then m.Sp+d+1 else m.Sp+d)+Vf.na f<b)->m2.fK[b]?=m.fK[b]?)->Inv Vf m2 f (j+1) fr:=
  fun m2 d' h0 hd' h1 h2 h3 h4 h5 h6 h7=>Inv.go hG hd' (af h0 _ (Nat.succ_pos _)) hb hf h1 h2 h3 h4 h5 h6 h7
 have push:∀(m2:fF) (v:Int),0<j->(Vf.jN f)[j+1]?=F (d+1)->jj v->jm { m with Pc:=Vf.jM f (j+1) } v=F m2->m2.fY=m.fY/\Inv Vf m2 f (j+1) fr:=fun m2 v h0 hd' hv hp=>by
  obtain⟨p1,p2,p3⟩:=yw hp;simp only at p1 p2 p3;subst p3;refine⟨rfl,next _ (d+1) h0 hd' rfl ⟨by simp only;omega,by simp only;omega⟩ (by simpa using a2) (ur a3 hv) (by simp only;omega) rfl (fun b hb' _=>?_)⟩;simp only;rw[Wy (by omega)]
 have word:∀(b v:Int),mW { m with Pc:=Vf.jM f (j+1) } b=F v->jj v:=fun b v hb'=>a3 v (Vx (K9 hb').2.2);unfold zR at he;by_cases k0:x.Op.Code=0
 ·rw[Vs k0] at he
  have av:=hG.lit f hf j x hx k0;obtain⟨g1,g2⟩:=push m' a (a0 (by omega) (by omega)) (a1 _ (by unfold jX;rw[Vs (.inl k0)]) (by rw[k0];rfl)) (by rw[ha (by rw[k0];rfl)];exact⟨by omega,by omega⟩) he;exact⟨g1,.inl ⟨f,j+1,fr,hf,g2⟩⟩
 rw[Vo k0] at he;by_cases k1:x.Op.Code=1
 ·rw[Vs k1] at he
  cases hv:mW { m with Pc:=Vf.jM f (j+1) } (m.Fp+a) with
  | none=>simp only at he;rw[hv] at he;cases he
  | some v=>
   simp only at he;rw[hv] at he;obtain⟨g1,g2⟩:=push m' v (a0 (by omega) (by omega)) (a1 _ (by unfold jX;rw[Vs (.inr (.inl k1))]) (by rw[k1];rfl)) (word _ v hv) he;exact⟨g1,.inl ⟨f,j+1,fr,hf,g2⟩⟩
 rw[Vo k1] at he;by_cases k3:x.Op.Code=3
 ·rw[Vs k3] at he
  cases hv:mW { m with Pc:=Vf.jM f (j+1) } (m.Sp+a) with
  | none=>simp only at he;rw[hv] at he;cases he
  | some v=>
   simp only at he;rw[hv] at he;obtain⟨g1,g2⟩:=push m' v (a0 (by omega) (by omega)) (a1 _ (by unfold jX;rw[Vs (.inr (.inr k3))]) (by rw[k3];rfl)) (word _ v hv) he;exact⟨g1,.inl ⟨f,j+1,fr,hf,g2⟩⟩
 rw[Vo k3] at he;by_cases k2:x.Op.Code=2
 ·rw[Vs k2] at he
  cases hp:iR { m with Pc:=Vf.jM f (j+1) } with
  | none=>rw[hp] at he;cases he
  | some p=>
   rw[hp] at he;have he:nI p.1 (m.Fp+a) p.2=F m':=he;obtain⟨p1,p2,p3,p4⟩:=sD hp;simp only at p1 p2 p3 p4;obtain⟨q1,q2,q3⟩:=Ks he;rw[p4] at q3;simp only at q3;subst q3;have h0:=a0 (by omega) (by omega);obtain⟨s1,s2,s3⟩:=aa.sf k2;have ac:lE Vf f j=H:=by rw[a6 h0];exact s3
   have az:m.Fp=m.Sp+d:=by rw[ac] at hb;exact hb.sY.1
   have ab:=ha (by rw[k2];rfl);rw[a5] at s2;refine⟨rfl,.inl ⟨f,j+1,fr,hf,next _ (d-1) h0 (a1 _ (by unfold jX;rw[Vo (by omega),Vo (by omega),Vo (by omega),Vo (by omega)]) (by rw[k2];rfl)) rfl ⟨by simp only;omega,by simp only;omega⟩ (by simpa using a2) (ur a3 (a3 _ (Vx p3))) (by simp only;omega) rfl (fun b hb1 a9=>?_)⟩⟩;simp only;rw[ac] at a9;simp only[Xe] at a9;rw[Wy (by omega)]
 rw[Vo k2] at he;by_cases k4:x.Op.Code=4
 ·rw[Vs k4] at he
  cases hp:iR { m with Pc:=Vf.jM f (j+1) } with
  | none=>rw[hp] at he;cases he
  | some p=>
   rw[hp] at he;have he:nI p.1 (m.Sp+a) p.2=F m':=he;obtain⟨p1,p2,p3,p4⟩:=sD hp;simp only at p1 p2 p3 p4;obtain⟨q1,q2,q3⟩:=Ks he;rw[p4] at q3;simp only at q3;subst q3;have h0:=a0 (by omega) (by omega);obtain⟨s1,s2,s3⟩:=aa.ss k4;have ac:lE Vf f j=M:=by rw[a6 h0];exact s3
   have ab:=ha (by rw[k4];rfl);rw[a5] at s2;refine⟨rfl,.inl ⟨f,j+1,fr,hf,next _ (d-1) h0 (a1 _ (by unfold jX;rw[Vo (by omega),Vo (by omega),Vo (by omega),Vo (by omega)]) (by rw[k4];rfl)) rfl ⟨by simp only;omega,by simp only;omega⟩ (by simpa using a2) (ur a3 (a3 _ (Vx p3))) (by simp only;omega) rfl (fun b hb1 a9=>?_)⟩⟩;simp only;rw[ac] at a9;simp only[WX,Yn] at a9;rw[Wy (by omega)]
 rw[Vo k4] at he;by_cases k10:x.Op.Code=10
 ·rw[Vs k10] at he
  injection he with he
  subst he;have h0:=a0 (by omega) (by omega);obtain⟨t,t1,t0,t2⟩:=hF.jump j x d hx hd (by rw[k10];rfl);have ho:jX (Vf.env f).p x.Op d=d:=by unfold jX;rw[Vo (by omega),Vs (.inl k10)]
  rw[ho] at t2;refine⟨rfl,.inl ⟨f,t,fr,hf,Inv.go hG t2 (af h0 _ t0) hb hf (hj (by rw[k10];rfl) t t1) al a2 a3 rfl rfl (fun _ _ _=>rfl)⟩⟩
 rw[Vo k10] at he;by_cases k11:x.Op.Code=11
 ·rw[Vs k11] at he
  cases hp:iR { m with Pc:=Vf.jM f (j+1) } with
  | none=>rw[hp] at he;cases he
  | some p=>
   rw[hp] at he;simp only[Xp,VO] at he;obtain⟨p1,p2,p3,p4⟩:=sD hp;simp only at p1 p2 p3 p4;have h0:=a0 (by omega) (by omega);obtain⟨t,t1,t0,t2⟩:=hF.jump j x d hx hd (by rw[k11];rfl);have ho:jX (Vf.env f).p x.Op d=d-1:=by unfold jX;rw[Vo (by omega),Vo (by omega),Vo (by omega),Vo (by omega)]
   rw[ho] at t2;rw[p4] at he;subst he;split
   ·exact⟨rfl,.inl ⟨f,t,fr,hf,Inv.go hG t2 (af h0 _ t0) hb hf (hj (by rw[k11];rfl) t t1) ⟨by simp only;omega,by simp only;omega⟩ a2 a3 (by simp only;omega) rfl (fun _ _ _=>rfl)⟩⟩
   ·exact⟨rfl,.inl ⟨f,j+1,fr,hf,next _ (d-1) h0 (a1 _ ho (by rw[k11];rfl)) rfl ⟨by simp only;omega,by simp only;omega⟩ a2 a3 (by simp only;omega) rfl (fun _ _ _=>rfl)⟩⟩
 rw[Vo k11] at he;by_cases k12:x.Op.Code=12
 ·rw[Vs k12] at he
  have ab:=ha (by rw[k12];rfl);obtain⟨g,hg⟩:=VI (aa.call k12).1;obtain⟨c1,c2,c3,c4,c5,c6⟩:=hG.callee hf hx k12 hg hd;cases hp:jm { m with Pc:=Vf.jM f (j+1) } (Vf.jM f (j+1)) with
  | none=>rw[hp] at he;cases he
  | some p=>
   rw[hp,ab,hg,Vy,hG.AX g c1] at he;simp only[Xc,Xp,VO] at he;obtain⟨p1,p2,p3⟩:=yw hp;simp only at p1 p2 p3;rw[p3] at he;subst he;have aq:=hG.kG g c1;obtain⟨y,hy,_⟩:=hG.first g c1;have ag:(m.fK.set (m.Sp-1).toNat (Vf.jM f (j+1)))[(m.Sp-1).toNat]?=F (Vf.jM f (j+1)):=WU (by omega);have a7:∀ b:Nat,m.Sp<=(b:Int)->(m.fK.set (m.Sp-1).toNat (Vf.jM f (j+1)))[b]?=m.fK[b]?:=fun b hb'=>Wy (by omega);have ak:jj (Vf.jM f (j+1)):=⟨by omega,by omega⟩
   refine⟨rfl,.inl ⟨g,0,(f,j)::fr,c1,rfl,⟨by simp only;omega,by simp only;omega⟩,by simpa using a2,ur a3 ak,0,y,hy,aq.first,?_⟩⟩;have ai:lE Vf g 0=M:=by unfold lE;simp
   rw[ai];simp only;refine .off ?_;have a9:=hb.gu hG (st':=m.fK.set (m.Sp-1).toNat (Vf.jM f (j+1))) fun b hb' _=>a7 b (by omega);cases ac:(Vf.env f).gT with
   | false=>
    rw[show lE Vf f j=M by rw[a6 c4];exact ac] at a9;exact .yY (by omega) (by rw[Xj];exact ag) hf hx k12 hg hd ac (by rw[show m.Sp-1+0+1+d=m.Sp+d by omega];exact a9.oY)
   | true=>
    rw[show lE Vf f j=H by rw[a6 c4];exact ac] at a9;obtain⟨b1,b2,fp,b3,b4⟩:=a9.sY;have:=pu.yW (Vf:=Vf) (st:=m.fK.set (m.Sp-1).toNat (Vf.jM f (j+1))) (R:=m.Sp-1+0) (fp:=fp) (d:=d) (f:=g) (g:=f) (jc:=j) (fr:=fr) (x:=x) (by omega) (by rw[Xj];exact ag) hf hx k12 hg hd ac (by rw[show m.Sp-1+0+1+d=m.Sp+d by omega];exact b3) (by rw[show m.Sp-1+0+1+d+1=m.Sp+d+1 by omega];exact b4);rw[show m.Sp-1+0+1+d=m.Sp+d by omega,<-b1] at this;exact this
 rw[Vo k12] at he;by_cases k13:x.Op.Code=13
 ·rw[Vs k13] at he
  obtain⟨e1,e2,e3⟩:=aa.uJ k13;subst e1;have ab:=ha (by rw[k13];rfl);rw[hF.first] at hd;injection hd with hd
  subst hd;cases hp:jm { m with Pc:=Vf.jM f (0+1) } m.Fp with
  | none=>rw[hp] at he;cases he
  | some p=>
   rw[hp] at he;have he:qR a.toNat { p with Fp:=p.Sp }=F m':=he;obtain⟨p1,p2,p3⟩:=yw hp;simp only at p1 p2 p3;obtain⟨z1,z2,z3,z4,z5,z6,z7,z8⟩:=EJ _ he;rw[p3] at z1 z2 z3 z4 z5 z6 z7 z8;simp only at z1 z2 z3 z4 z5 z6 z7 z8;rw[ab] at z1;have ai:lE Vf f 0=M:=by unfold lE;simp
   have ar:lE Vf f (0+1)=H:=by unfold lE;rw[e3];simp
   rw[ai,Xj] at hb;have hb:=hb.oY;have ae:=a1 (0+x.Op.iz) (by unfold jX;rw[Vo (by omega),Vo (by omega),Vo (by omega),Vs (.inl k13)]) (by rw[k13];rfl);have au:0+1<(Vf.iM f).length:=by rw[<-hF.len];exact(Vh.1 ae).1
   have ag:m'.fK[(m.Sp-1).toNat]?=F m.Fp:=by
    rw[z7 _ (by omega)];exact WU (by omega)
   have a7:∀ b:Nat,m.Sp<=(b:Int)->m'.fK[b]?=m.fK[b]?:=fun b hb'=>by rw[z7 b (by omega)];exact Wy (by omega)
   refine⟨z5,.inl ⟨f,0+1,fr,hf,z4,⟨z2 (by omega) (by omega),by omega⟩,by rw[z6];simpa using a2,z8 (ur a3 ⟨by omega,by omega⟩),_,_,Vq au,ae,?_⟩⟩;rw[ar,z3,show m'.Sp+(0+x.Op.iz)=m.Sp-1 by omega];exact .on (by omega) ag (by rw[show m.Sp-1+1=m.Sp by omega];exact hb.gu hG fun b hb'=>a7 b (by omega))
 rw[Vo k13] at he;by_cases k15:x.Op.Code=15
 ·rw[Vs k15] at he
  obtain⟨e1,e2⟩:=aa.Cj k15;have ab:=ha (by rw[k15];rfl);obtain⟨z1,z2,z3,z4,z5,z6,z7,z8⟩:=EJ _ he;simp only at z1 z2 z3 z4 z5 z6 z7 z8;rw[ab] at z1;have ae:=a1 (d+x.Op.iz) (by unfold jX;rw[Vo (by omega),Vo (by omega),Vo (by omega),Vs (.inr k15)]) (by rw[k15];rfl)
  have aj:lE Vf f (j+1)=lE Vf f j:=by
   rcases XL j with h0 | h0
   ·unfold lE;rw[e2 h0];rfl
   ·exact af h0 _ (Nat.succ_pos _)
  exact⟨z5,.inl ⟨f,j+1,fr,hf,Inv.go hG ae aj hb hf z4 ⟨z2 al.2 al.1,by omega⟩ (by rw[z6];exact a2) (z8 a3) (by omega) z3 (fun b hb' _=>z7 b (by omega))⟩⟩
 rw[Vo k15] at he;by_cases k14:x.Op.Code=14
 ·rw[Vs k14] at he
  obtain⟨e1,e2,e3⟩:=aa.re k14;have h0:=a0 (by omega) (by omega);have ab:=ha (by rw[k14];rfl);rw[a5] at e2;rw[show lE Vf f j=H by rw[a6 h0];exact e1] at hb;obtain⟨b1,b2,fp,b3,b4⟩:=hb.sY;have ah:=b4.vF hG;cases hp:iR { m with Pc:=Vf.jM f (j+1) } with
  | none=>rw[hp] at he;cases he
  | some p=>
  rw[hp] at he;simp only[Xc] at he;obtain⟨p1,p2,p3,p4⟩:=sD hp;simp only at p1 p2 p3 p4;rw[p4] at he;simp only at he;cases hq:iR { m with Pc:=Vf.jM f (j+1),Sp:=m.Fp } with
  | none=>rw[hq] at he;cases he
  | some q=>
  rw[hq] at he;simp only[Xc] at he;obtain⟨q1,q2,q3,q4⟩:=sD hq;simp only at q1 q2 q3 q4;rw[b1,b3] at q3;injection q3 with q3
  rw[q4,<-q3] at he;simp only at he;cases hr:iR { m with Pc:=Vf.jM f (j+1),Sp:=m.Fp+1,Fp:=fp } with
  | none=>rw[hr] at he;cases he
  | some r=>
  rw[hr] at he;simp only[Xc] at he;obtain⟨r1,r2,r3,r4⟩:=sD hr;simp only at r1 r2 r3 r4;rw[r4] at he;simp only at he;cases hdr:kt a.toNat { m with Pc:=r.2,Sp:=m.Fp+1+1,Fp:=fp } with
  | none=>rw[hdr] at he;cases he
  | some m3=>
  rw[hdr] at he;simp only[Xc] at he;obtain⟨d1,d2⟩:=CR _ hdr (by simp only;omega);simp only at d1 d2;rw[d1] at he;obtain⟨w1,w2,w3⟩:=yw he;simp only at w1 w2 w3;have aC:(a.toNat:Int)=Vf.na f:=by omega
  have ad:m'.Sp=m.Sp+d+1+Vf.na f:=by rw[w3];simp only;omega
  have a8:(m.Fp+1+1+(a.toNat:Int)-1).toNat=(m.Sp+d+1+Vf.na f).toNat:=by congr 1;omega
  have a4:m'.fK=m.fK.set (m.Sp+d+1+Vf.na f).toNat p.2:=by rw[w3];simp only;rw[a8]
  rcases Inv.back (m':=m') hG b4 (by rw[<-b1];exact r3) a2 a3 (a3 _ (Vx p3)) (by rw[w3]) ad (by rw[w3]) a4 ⟨by omega,by omega⟩ with⟨h1,h2⟩ | ⟨g,jc,fr',h1,h2,h3,h4⟩
  ·refine⟨by rw[w3],.inr ⟨by rw[w3];exact h2,h1,by omega,by omega,by rw[w3];simp only;omega,by rw[w3];simp only;omega,by rw[a4];simpa using a2,by rw[a4];exact ur a3 (a3 _ (Vx p3))⟩⟩
  ·exact⟨by rw[w3],.inl ⟨g,jc+1,fr',h2,h4⟩⟩
 rw[Vo k14] at he;by_cases k16:x.Op.Code=16
 ·rw[Vs k16] at he
  obtain⟨e1,e2,e3⟩:=aa.ret k16;have h0:=a0 (by omega) (by omega);have ab:=ha (by rw[k16];rfl);rw[a5] at e2;rw[show lE Vf f j=M by rw[a6 h0];exact e1] at hb;have b4:=hb.oY;have ah:=b4.vF hG;have aD:((a.toNat / 16:Nat):Int)=(Vf.env f).fO:=by omega
  have aE:((a.toNat % 16:Nat):Int)=Vf.na f:=by omega
  cases hp:iR { m with Pc:=Vf.jM f (j+1) } with
  | none=>rw[hp] at he;cases he
  | some p=>
  rw[hp] at he;simp only[Xc] at he;obtain⟨p1,p2,p3,p4⟩:=sD hp;simp only at p1 p2 p3 p4;rw[p4] at he;cases hdq:kt (a.toNat / 16) { m with Pc:=Vf.jM f (j+1),Sp:=m.Sp+1 } with
  | none=>rw[hdq] at he;cases he
  | some m2=>
  rw[hdq] at he;simp only[Xc] at he;obtain⟨c1,c2⟩:=CR _ hdq (by simp only;omega);simp only at c1 c2;rw[c1] at he;cases hr:iR { m with Pc:=Vf.jM f (j+1),Sp:=m.Sp+1+((a.toNat / 16:Nat):Int) } with
  | none=>rw[hr] at he;cases he
  | some r=>
  rw[hr] at he;simp only[Xc] at he;obtain⟨r1,r2,r3,r4⟩:=sD hr;simp only at r1 r2 r3 r4;rw[r4] at he;simp only at he;cases hdr:kt (a.toNat % 16) { m with Pc:=r.2,Sp:=m.Sp+1+((a.toNat / 16:Nat):Int)+1 } with
  | none=>rw[hdr] at he;cases he
  | some m3=>
  rw[hdr] at he;simp only[Xc] at he;obtain⟨d1,d2⟩:=CR _ hdr (by simp only;omega);simp only at d1 d2;rw[d1] at he;obtain⟨w1,w2,w3⟩:=yw he;simp only at w1 w2 w3;have ad:m'.Sp=m.Sp+d+Vf.na f:=by rw[w3];simp only;omega
  have a8:(m.Sp+1+((a.toNat / 16:Nat):Int)+1+((a.toNat % 16:Nat):Int)-1).toNat=(m.Sp+d+Vf.na f).toNat:=by congr 1;omega
  have a4:m'.fK=m.fK.set (m.Sp+d+Vf.na f).toNat p.2:=by rw[w3];simp only;rw[a8]
  rcases Inv.back (m':=m') hG b4 (by rw[show m.Sp+d=m.Sp+1+((a.toNat / 16:Nat):Int) by omega];exact r3) a2 a3 (a3 _ (Vx p3)) (by rw[w3]) ad (by rw[w3]) a4 ⟨by omega,by omega⟩ with⟨h1,h2⟩ | ⟨g,jc,fr',h1,h2,h3,h4⟩
  ·refine⟨by rw[w3],.inr ⟨by rw[w3];exact h2,h1,by omega,by omega,by rw[w3];simp only;omega,by rw[w3];simp only;omega,by rw[a4];simpa using a2,by rw[a4];exact ur a3 (a3 _ (Vx p3))⟩⟩
  ·exact⟨by rw[w3],.inl ⟨g,jc+1,fr',h2,h4⟩⟩
 rw[Vo k16] at he;by_cases k17:x.Op.Code=17
 ·rw[Vs k17] at he
  cases hp:iR { m with Pc:=Vf.jM f (j+1) } with
  | none=>rw[hp] at he;cases he
  | some p=>
   rw[hp] at he;simp only[Xp,VO] at he;obtain⟨p1,p2,p3,p4⟩:=sD hp;simp only at p1 p2 p3 p4;rw[p4] at he;subst he;have h0:=a0 (by omega) (by omega);exact⟨rfl,.inl ⟨f,j+1,fr,hf,next _ (d-1) h0 (a1 _ (by unfold jX;rw[Vo (by omega),Vo (by omega),Vo (by omega),Vo (by omega)]) (by rw[k17];rfl)) rfl ⟨by simp only;omega,by simp only;omega⟩ a2 a3 (by simp only;omega) rfl (fun _ _ _=>rfl)⟩⟩
 rw[Vo k17] at he;have am:5<=x.Op.Code/\x.Op.Code<=9:=by omega
 have h2:=aa.two am.1 am.2;cases hp:iR { m with Pc:=Vf.jM f (j+1) } with
 | none=>rw[hp] at he;cases he
 | some p=>
  rw[hp] at he;simp only[Xc] at he;obtain⟨p1,p2,p3,p4⟩:=sD hp;simp only at p1 p2 p3 p4;cases hq:iR p.1 with
  | none=>rw[hq] at he;cases he
  | some q=>
   rw[hq] at he;simp only[Xc] at he;obtain⟨q1,q2,q3,q4⟩:=sD hq;rw[p4] at q1 q2 q3 q4;simp only at q1 q2 q3 q4;obtain⟨r1,r2,r3⟩:=yw he;rw[q4] at r1 r2 r3;simp only at r1 r2 r3;subst r3;have h0:=a0 (by omega) (by omega);refine⟨rfl,.inl ⟨f,j+1,fr,hf,next _ (d-1) h0 (a1 _ (by unfold jX;rw[Vo (by omega),Vo (by omega),Vo (by omega),Vo (by omega)]) ?_) rfl ⟨by simp only;omega,by simp only;omega⟩ (by simpa using a2) (ur a3 (NU _ _ _)) (by simp only;omega) rfl (fun b hb' _=>?_)⟩⟩
   ·unfold AR
    rw[Vv (by omega),Vv (by omega),Vv (by omega)];rfl
   ·simp only
    rw[Wy (by omega)]
theorem Tq (s:gQ)(m:fF):mC s m=if (kE s m.Pc).ok=H then ((zR s.fm { m with Pc:=m.Pc+(kE s m.Pc).n } (kE s m.Pc).code (kE s m.Pc).arg).bind oW).getD { m with fY:=2 } else { m with fY:=2 }:=by
 unfold mC kE;simp only;by_cases h:(loc s m.Pc).1<0
 ·simp only[Vs h]
  simp
 ·simp only[Vo h]
  cases s.fw[(loc s m.Pc).1.toNat]? with
  | none=>simp
  | some i=>simp only
theorem Good.bad {Vf:PG} (h:Good Vf m):Good Vf { m with fY:=2 }:=⟨h.pc,h.fp,h.sp,h.len,h.sm,fun h0=>by cases h0⟩
theorem Q4 {Vf:PG} (hG:kP s Vf){m:fF}(h:Good Vf m)(h0:m.fY=0):Good Vf (mC s m):=by
 obtain⟨f,j,fr,hf,hI⟩:=h.runs h0;obtain⟨d,x,hx,hd,hb⟩:=hI.base;obtain⟨c1,c2,c3,c4,c5⟩:=hG.code f hf j x hx;have a0:Good Vf { Pc:=Vf.jM f j,Sp:=m.Sp,Fp:=m.Fp,fK:=m.fK,iE:=m.iE,fY:=2,Value:=m.Value }:=by rw[<-hI.pc];exact h.bad
 rw[Tq,hI.pc,Vs c1,c2,c3];cases he:zR s.fm { m with Pc:=Vf.jM f (j+1) } x.Op.Code (kE s (Vf.jM f j)).arg with
 | none=>exact a0
 | some m'=>
  obtain⟨g0,g1⟩:=OY hG hI hf hx hd hb c4 c5 he;simp only[Xc];rcases g1 with⟨f',j',a2,g2,g3⟩ | ⟨g2,g3,g4,g5,g6,g7,g8,g9⟩
  ·have g4:=g3.rQ hG g2
   obtain⟨d',x',a1,_⟩:=g3.base;have hn:=hG.ym f' g2 j' (by have:=(Vh.1 a1).1;omega);unfold oW;rw[Vo (by rw[g3.pc];omega)];exact g4
  ·unfold oW
   rw[Vs g2];cases mW m' m'.Sp with
   | none=>exact a0
   | some v=>exact⟨by simp only[g2];simp,⟨g6,g7⟩,⟨g4,g5⟩,g8,g9,fun h=>by cases h⟩
theorem Ry {Vf:PG} (hG:kP s Vf){m:fF}(hpc:m.Pc=Vf.jM 0 0)(hsp:m.Sp=1199)(hfp:m.Fp=1200)(hst:m.fK=VP 1200 0):Good Vf m:=by
 have hf:=hG.main.1;obtain⟨x,hx,_⟩:=hG.first 0 hf;refine Inv.rQ hG (f:=0) (j:=0) (fr:=[]) ⟨hpc,fh,by rw[hst];exact Wn,fun v hv=>?_,0,x,hx,(hG.kG 0 hf).first,?_⟩ hf
 ·rw[hst] at hv
  rw[XQ hv];exact⟨gv,gv⟩
 ·rw[show lE Vf 0 0=M by unfold lE;simp,hsp,hfp,hst]
  exact .off (.main (by rw[List.getElem?_replicate,Vs gv]))
theorem QC (n:Int):((pj n).toNat:Int)=n % 256:=by
 unfold pj;have h1:(n % 256).toNat<256:=fh;rw[Ye (by simpa using h1)];omega
theorem H8 (a:Int):∀(n k i:Nat),i<n->(qi a n k)[i]?=F (pj (a / 2 ^ (8*(k+i))))
 | 0,k,i,h=>fh
 | n+1,k,i,h=>by
  cases i with
  | zero=>rfl
  | succ i=>
   simp only[qi,Ww];rw[H8 a n (k+1) i fh];rw[show k+1+i=k+(i+1) from fh]
theorem Sj {x:mT} (h:lj x=H)(pre rest:G){i:Nat}(hi:i<(jg x.Code).1):kU (pre++(jV x++rest)) (pre.size+1+i)=(pj (x.iz / 2 ^ (8*i))).toNat:=by
 unfold kU;rw[Xa,Xa,XJ,XJ,VX (by rw[yO];omega),yO];rw[show pre.size+1+i-pre.size=i+1 from fh];have he:(jV x).data.toList=pj x.Code::qi x.iz (jg x.Code).1 0:=by unfold jV;rw[Vs h]
 rw[he];simp only[Xl,Ww];rw[Wh (by rw[CB];exact hi),H8 _ _ _ _ hi];simp
theorem Qi {x:mT} (h:lj x=H)(pre rest:G):ku (pre++(jV x++rest)) (pre.size:Nat)=⟨x.Code,x.iz,(jV x).size,H⟩:=by
 have hc:=CW h;have h1:=G0 h pre rest;have h2:=zy h;have hs:(pre++(jV x++rest)).size=pre.size+((jV x).size+rest.size):=by simp[V5]
 have a1:((x.Code.toNat:Nat):Int)=x.Code:=fh;have hd:=CS (s:=pre++(jV x++rest)) (a:=pre.size) (c:=x.Code.toNat) (w:=(jg x.Code).1) (sg:=(jg x.Code).2) fh h1 fh (by rw[a1]) fh;rw[hd,a1,h2]
 have a0:rL (jg x.Code).1 (jg x.Code).2 (oQ (pre++(jV x++rest)) (pre.size+1) (jg x.Code).1)=x.iz:=by
  have hb:∀ i,i<(jg x.Code).1->((kU (pre++(jV x++rest)) (pre.size+1+i):Nat):Int)=x.iz / 2 ^ (8*i) % 256:=fun i hi=>by rw[Sj h pre rest hi,QC]
  generalize pre++(jV x++rest)=S at hb;unfold lj at h;rw[Vt] at h;have h3:=h.2;rcases BG x.Code with hw | hw | hw | hw | hw
  all_goals
   rw[hw] at h3 hb |-
   simp only[Xe,WX,Yn] at h3
   have h3:=zr.1 h3
   simp only[oQ,rL]
  ·have b0:=hb 0 fh
   have b1:=hb 1 fh;have b2:=hb 2 fh;have b3:=hb 3 fh;simp only[YN,Xo,Nat.reduceMul,YU,Nat.reduceSub,Nat.reducePow,Wk,VJ,Yv] at b0 b1 b2 b3 h3 |-;generalize kU S (pre.size+1)=q0 at *
   generalize kU S (pre.size+1+1)=q1 at *
   generalize kU S (pre.size+1+2)=q2 at *
   generalize kU S (pre.size+1+3)=q3 at *
   split <;> omega
  ·have b0:=hb 0 fh
   have b1:=hb 1 fh;simp only[YN,Xo,Nat.reduceMul,YU,Nat.reduceSub,Nat.reducePow,Wk,VJ,Yv] at b0 b1 h3 |-;generalize kU S (pre.size+1)=q0 at *
   generalize kU S (pre.size+1+1)=q1 at *
   split <;> omega
  ·have b0:=hb 0 fh
   have b1:=hb 1 fh;simp only[YN,Xo,Nat.reduceMul,YU,Nat.reduceSub,Nat.reducePow,Wk,VJ,WX,false_and,Yn] at b0 b1 h3 |-;generalize kU S (pre.size+1)=q0 at *
   generalize kU S (pre.size+1+1)=q1 at *
   omega
  ·have b0:=hb 0 fh
   simp only[YN,Xo,YU,Nat.reduceSub,Nat.reducePow,Wk,VJ,WX,false_and,Yn] at b0 h3 |-;generalize kU S (pre.size+1)=q0 at *
   omega
  ·simp only[YN,YU,WX,false_and,Yn] at h3 |-
   omega
 rw[a0]
theorem Kt:∀(l r:D mS),lS (l++r)=lS l++lS r
 | [],r=>by simp only[Wo,lS,BQ]
 | x::l,r=>by simp only[Xl,lS,Kt l r,WF]
theorem Jj:∀(l r:D mS)(a:Nat),oT (l++r) a=oT l a++oT r (a+(lS l).size)
 | [],r,a=>by simp[oT,lS,FT]
 | x::l,r,a=>by
  simp only[Xl,oT,Jj l r,lS];rw[V5,Yq]
theorem EI {p:D fB}{b:gP}{image:Int}(hF:∀ f,f<(zn p).length->ki p f (zx p b f)):∀(n f:Nat)(a:Int)(g:Nat),f<=g->g<f+n->f+n<=(zn p).length->nU b g image=H->
  ∃(l1 l2:D mS) (a':Int),mD p b image n f a=l1++pV p g (zx p b g) a'::l2/\a'=a+(lS l1).size
 | 0,f,a,g,h1,h2,_,_=>fh
 | n+1,f,a,g,h1,h2,h3,hi=>by
  by_cases hfg:f=g
  ·subst hfg
   simp only[mD];rw[Vs hi];exact⟨[],_,a,rfl,by simp[lS,FT]⟩
  ·simp only[mD]
   split
   ·obtain⟨l1,l2,a',e1,e2⟩:=EI hF n (f+1) (nX (zx p b f) a) g fh fh fh hi
    have a0:=((hF f fh).jD a).2.2;refine⟨pV p f (zx p b f) a::l1,l2,a',by rw[e1];rfl,?_⟩;simp only[lS];rw[V5,e2];omega
   ·obtain⟨l1,l2,a',e1,e2⟩:=EI hF n (f+1) a g fh fh fh hi
    exact⟨l1,l2,a',e1,e2⟩
theorem Ap:∀(l:D fX)(a:Int)(j:Nat),j<=l.length->(zZ l a)[j]?=F (a+((l.take j).map fun x=>zK x.Op.Code).sum)
 | [],a,j,h=>by
  have:j=0:=by simpa using h
  subst this;simp[zZ]
 | x::l,a,0,h=>by simp[zZ]
 | x::l,a,j+1,h=>by
  simp only[zZ,Ww];rw[Ap l (a+zK x.Op.Code) j (by simpa using h)];simp only[Wz,WD,Xz];congr 1;omega
theorem Ii (h:j<=l.length):(zZ l a).getD j 0=a+(zZ l 0).getD j 0:=by
 rw[VR,VR,Ap l a j h,Ap l 0 j h];simp
theorem KT {x:fX} (h:l[j]?=F x):(lK (jZ l a))[j]?=F (lY (zZ l a) j x).fE.Op:=by
 unfold lK jZ;rw[Xw,zw,h,VJ];rfl
theorem Rr (h:ki p f l)(a:Int){j:Nat}(hj:j<=l.length):((lB ((lK (jZ l a)).take j)).size:Int)=(zZ l 0).getD j 0:=by
 have a0:=(h.jD a).1;have h1:=Eo ((lK (jZ l a)).take j) (fun x hx=>a0 x (Yu hx));have h2:((lK (jZ l a)).take j).map (fun x=>zK x.Code)=(l.take j).map fun x=>zK x.Op.Code:=by rw[List.map_take,Ia,<-List.map_take]
 rw[h1,h2,VR,Ap l 0 j hj];simp
theorem Rs (a:Int){j:Nat}{x:fX}(hx:l[j]?=F x):lK (jZ l a)=(lK (jZ l a)).take j++(lY (zZ l a) j x).fE.Op::(lK (jZ l a)).drop (j+1):=by
 have h:=KT (a:=a) hx;obtain⟨h1,h2⟩:=Vh.1 h;rw[<-h2,<-VB h1,List.take_append_drop]
def uj (b:gP)(f:Nat):Nat:=if b.ic=H/\f % 2=1 then 1 else 0
theorem LN (b:gP)(f:Nat):nU b f (uj b f:Nat)=H:=by
 unfold nU uj;by_cases h:b.ic=H
 ·rw[Vs h]
  by_cases h2:f % 2=1
  ·rw[Vs ⟨h,h2⟩]
   exact Vv fh
  ·rw[Vo (fun hh=>h2 hh.2)]
   exact Vv fh
 ·rw[Vo h,Vo (fun hh=>h hh.1)]
  rfl
def oA (b:gP)(b0 b1:Int)(f:Nat):Int:=if b.ic=H/\f % 2=1 then b1 else b0
theorem Ki {p:D fB}{b:gP}{i0 i1:ii}{b0 b1:Int}:∀(n f g:Nat),f<=g->g<f+n->(∀ k,f<=k->k<f+n->(ny (if b.ic=H/\k % 2=1 then i1 else i0) (oA b b0 b1 k) (kX p ((zn p).getD k 0))).length=1)->
  (ry p b i0 i1 b0 b1 n f)[g-f]?=(ny (if b.ic=H/\g % 2=1 then i1 else i0) (oA b b0 b1 g) (kX p ((zn p).getD g 0)))[0]?
 | 0,f,g,h1,h2,_=>fh
 | n+1,f,g,h1,h2,h=>by
  have he:(if b.ic=H/\f % 2=1 then ny i1 b1 (kX p ((zn p).getD f 0)) else ny i0 b0 (kX p ((zn p).getD f 0)))=ny (if b.ic=H/\f % 2=1 then i1 else i0) (oA b b0 b1 f) (kX p ((zn p).getD f 0)):=by
   unfold oA;split <;> rfl
  simp only[ry];rw[he];have hl:=h f (Vz _) fh;by_cases hfg:f=g
  ·subst hfg
   rw[Ws,Wh fh]
  ·rw[VX fh,hl,show g-f-1=g-(f+1) from fh]
   exact Ki n (f+1) g fh fh (fun k a b=>h k fh fh)
theorem UC (hp:zA p=H)(hS:pi p)(hb:kC b=H){f:Nat}(hf:f<(zn p).length) :
  ∃(pre post:G) (i:ii),(zo p b b0 b1).fw[uj b f]?=F i/\(zo p b b0 b1).fm[f]?=F (oA b b0 b1 f+pre.size)/\i.Code=pre++(lB (lK (jZ (zx p b f) pre.size))++post):=by
 have hF:=fun f hf=>BV (f:=f) hp hS hb hf
 have a4:∀ k,k<(zn p).length->(ny (if b.ic=H/\k % 2=1 then zP p b 1 else zP p b 0) (oA b b0 b1 k) (kX p ((zn p).getD k 0))).length=1:=by
  intro k hk
  have a5:∀ image:Int,gE image 0 1=H->nU b k image=H->(ny (zP p b image) (oA b b0 b1 k) (kX p ((zn p).getD k 0))).length=1:=by
   intro image a6 a0;obtain⟨_,a7⟩:=EU (image:=image) hp hS hb;obtain⟨x,hx,hn⟩:=Dj (p:=p) (b:=b) (image:=image) (zn p).length 0 0 k (Vu _) (by omega) a0;have:=FK (qh p b image) 0 (kX p ((zn p).getD k 0)) a7 ⟨x,hx,hn⟩;rw[Cw hp hS hb a6];unfold ny yM;rw[Yb];exact this
  have a0:=LN b k;unfold uj at a0;by_cases hc:b.ic=H/\k % 2=1
  ·rw[Vs hc] at a0 |-
   exact a5 1 rfl a0
  ·rw[Vo hc] at a0 |-
   exact a5 0 rfl a0
 have a1:=Ki (p:=p) (b:=b) (i0:=zP p b 0) (i1:=zP p b 1) (b0:=b0) (b1:=b1) (zn p).length 0 f (Vu _) (by omega) (fun k _ hk=>a4 k (by omega));rw[Nat.sub_zero] at a1
 have a5:∀ image:Int,gE image 0 1=H->nU b f image=H->(ny (zP p b image) (oA b b0 b1 f) (kX p ((zn p).getD f 0))).length=1->∃(pre post:G),(ny (zP p b image) (oA b b0 b1 f) (kX p ((zn p).getD f 0)))[0]?=F (oA b b0 b1 f+pre.size)/\(zP p b image).Code=pre++(lB (lK (jZ (zx p b f) pre.size))++post):=by
  intro image a6 a0 h1;obtain⟨l1,l2,a',e1,e2⟩:=EI (image:=image) hF (zn p).length 0 0 f (Vu _) (by omega) (by omega) a0;have ea:a'=((lS l1).size:Int):=by omega
  rw[Cw hp hS hb a6] at h1 |-;have a3:qh p b image=l1++pV p f (zx p b f) a'::l2:=e1;refine⟨lS l1,lS l2,?_,?_⟩
  ·have hm:(⟨kX p ((zn p).getD f 0),((lS l1).size:Int),((pV p f (zx p b f) a').code.size:Int)⟩:fR)∈(oT (qh p b image) 0).filter fun x=>decide (x.fJ=kX p ((zn p).getD f 0)):=by
    rw[List.mem_filter];refine⟨?_,by simp⟩;rw[a3,Jj];refine VV _ ?_;rw[VJ];exact WW
   have a2:oA b b0 b1 f+((lS l1).size:Int)∈ny (yM (qh p b image)) (oA b b0 b1 f) (kX p ((zn p).getD f 0)):=by
    unfold ny yM;exact Yc.2 ⟨_,hm,rfl⟩
   match hE:ny (yM (qh p b image)) (oA b b0 b1 f) (kX p ((zn p).getD f 0)),h1,a2 with
   | [v],_,a2=>rw[Vi.1 a2];rfl
  ·show lS (qh p b image)=_
   rw[a3,Kt,ea];rfl
 have a0:=LN b f;have h1:=a4 f hf;unfold uj at a0 |-;by_cases hc:b.ic=H/\f % 2=1
 ·rw[Vs hc] at a0 h1 a1 |-
  obtain⟨pre,post,g1,g2⟩:=a5 1 rfl a0 h1;exact⟨pre,post,zP p b 1,rfl,a1.trans g1,g2⟩
 ·rw[Vo hc] at a0 h1 a1 |-
  obtain⟨pre,post,g1,g2⟩:=a5 0 rfl a0 h1;exact⟨pre,post,zP p b 0,rfl,a1.trans g1,g2⟩
def yL (p:D fB)(b:gP)(s:gQ)(Vd:Nat->D Int):PG:=
 ⟨(zn p).length,zx p b,Vd,fun f=>sc p b f (AI p b f),fun f j=>s.fm.getD f 0+(zZ (zx p b f) 0).getD j 0,fun g=>((zD p ((zn p).getD g 0)).length:Int)⟩
theorem NE (hp:zA p=H)(hS:pi p)(h4:(zn p).length<=4)(hb:kC b=H)(h0:1<=b0/\b0<=9000)(h1:20000<=b1/\b1<=1000000){f:Nat}(hf:f<(zn p).length){pre post:G}{i:ii}
  (hi:(zo p b b0 b1).fw[uj b f]?=F i) (hc:i.Code=pre++(lB (lK (jZ (zx p b f) pre.size))++post)) {j:Nat} {x:fX} (hx:(zx p b f)[j]?=F x) :
  kE (zo p b b0 b1) (oA b b0 b1 f+pre.size+(zZ (zx p b f) 0).getD j 0)=⟨(lY (zZ (zx p b f) pre.size) j x).fE.Op.Code,(lY (zZ (zx p b f) pre.size) j x).fE.Op.iz,(jV (lY (zZ (zx p b f) pre.size) j x).fE.Op).size,H⟩:=by
 have hI:=BV hp hS hb f hf;have a9:=(Vh.1 hx).1;have a7:=Rr hI pre.size (show j<=(zx p b f).length from fh);have a6:=Rs (pre.size:Int) hx;generalize hop:(lY (zZ (zx p b f) pre.size) j x).fE.Op=op at a6 |-
 have a1:lj op=H:=(hI.jD pre.size).1 op (by
  show op∈lK (jZ (zx p b f) pre.size);rw[a6]
  simp)
 have a0:i.Code=(pre++lB ((lK (jZ (zx p b f) pre.size)).take j))++(jV op++(lB ((lK (jZ (zx p b f) pre.size)).drop (j+1))++post)):=by
  rw[hc]
  conv=>lhs;rw[a6]
  rw[IN];simp only[lB,WF]
 have a2:=Qi a1 (pre++lB ((lK (jZ (zx p b f) pre.size)).take j)) (lB ((lK (jZ (zx p b f) pre.size)).drop (j+1))++post);rw[<-a0] at a2
 have a5:((pre++lB ((lK (jZ (zx p b f) pre.size)).take j)).size:Int)=pre.size+(zZ (zx p b f) 0).getD j 0:=by
  rw[V5,<-a7];omega
 have a8:(pre++lB ((lK (jZ (zx p b f) pre.size)).take j)).size<i.Code.size:=by
  have h2:=zy a1;rw[a0];simp only[V5];omega
 rw[Int.add_assoc,<-a5];generalize (pre++lB ((lK (jZ (zx p b f) pre.size)).take j)).size=P at a2 a8
 have a4:loc (zo p b b0 b1) (oA b b0 b1 f+P)=(((uj b f:Nat):Int),(P:Int)):=by
  unfold loc zo;simp only[mG];unfold uj at hi |-;unfold oA;by_cases hcs:b.ic=H/\f % 2=1
  ·rw[Vs hcs] at hi |-
   rw[Vs hcs]
   have a3:zP p b 1=i:=by
    unfold zo at hi;simpa using hi
   have ac:=(vK (image:=0) hp hS hb rfl).2;have aa:=DZ (p:=p) (b:=b) (image:=0) hcs.1 (zn p).length 0 0
   have ab:(qh p b 0).length<=2:=by
    show (mD p b 0 (zn p).length 0 0).length<=2;omega
   rw[Vo fh,a3,Vs fh];simp;omega
  ·rw[Vo hcs] at hi |-
   rw[Vo hcs]
   have a3:zP p b 0=i:=by
    unfold zo at hi;simpa using hi
   rw[a3,Vs fh];simp;omega
 unfold kE;rw[a4];simp only;rw[Vo fh,Vy,hi];exact a2
theorem GC (st:D Int)(j:Nat)(x:fX):(lY st j x).fE.Op.Code=x.Op.Code:=by
 unfold lY;simp only;split <;> rfl
theorem Ro (hp:zA p=H)(hS:pi p)(h4:(zn p).length<=4)(hb:kC b=H)(h0:1<=b0/\b0<=9000)(h1:20000<=b1/\b1<=1000000):∃ Vd,kP (zo p b b0 b1) (yL p b (zo p b b0 b1) Vd):=by
 have a4:=fun f (hf:f<(zn p).length)=>MX hp hb hf;refine⟨fun f=>if hf:f<(zn p).length then (a4 f hf).2.2.choose else [],?_⟩
 have hE:∀ f,f<(zn p).length->∃(a0 a1:G) (i:ii),(zo p b b0 b1).fw[uj b f]?=F i/\(zo p b b0 b1).fm.getD f 0=oA b b0 b1 f+a0.size/\(zo p b b0 b1).fm[f]?=F (oA b b0 b1 f+a0.size)/\i.Code=a0++(lB (lK (jZ (zx p b f) a0.size))++a1):=by
  intro f hf;obtain⟨a0,a1,i,e1,e2,e3⟩:=UC (b0:=b0) (b1:=b1) hp hS hb hf;exact⟨a0,a1,i,e1,by rw[VR,e2];rfl,e2,e3⟩
 have hF:=fun f hf=>BV (f:=f) hp hS hb hf;have ab:=qC hp;have a9:∀ l:D fX,(zZ l 0).getD 0 0=0:=fun l=>by cases l <;> rfl
 have a3:∀ g:Nat,0<=((zD p ((zn p).getD g 0)).length:Int)/\((zD p ((zn p).getD g 0)).length:Int)<=4:=by
  intro g;refine⟨fh,?_⟩;unfold zD;cases hx:p[((zn p).getD g 0).toNat]? with
  | none=>simp
  | some x=>
   have:=(nK.c ab).args _ x hx;simp only;omega
 refine⟨?_,?_,?_,?_,?_,?_,?_,?_,?_⟩
 ·intro f hf
  obtain⟨a0,a1,i,e1,e2,e3,e4⟩:=hE f hf;show _=F ((zo p b b0 b1).fm.getD f 0+(zZ (zx p b f) 0).getD 0 0);rw[a9,e2,e3,Xj]
 ·intro f hf
  have a2:f<(zn p).length:=hf;show lm (sc p b f (AI p b f)) (zx p b f) (if hf:f<(zn p).length then (a4 f hf).2.2.choose else []);rw[dif_pos a2];exact(a4 f a2).2.2.choose_spec
 ·intro f hf
  have h:=hF f hf;have hz:(zx p b f)[0]?=F ((zx p b f)[0]'h.pos):=Vq h.pos;refine⟨_,hz,?_⟩;have:=((h.ok 0 _ hz).first).1 rfl;omega
 ·intro f hf
  have a2:f<(zn p).length:=hf;refine⟨?_,(a3 f).1,(a3 f).2,(a4 f a2).1⟩;show ((zD p (((zn p)[f]?).getD 0)).length:Int)=((zD p ((zn p).getD f 0)).length:Int)
  rw[VR]
 ·intro f hf
  refine⟨rfl,fun g=>?_⟩;show tD p g=_;unfold tD;rw[Vy];rfl
 ·obtain⟨x,hx,af,an,ag⟩:=ab.head
  have aa:(zn p)[0]?=F 0:=by
   unfold zn;cases p with
   | nil=>cases hx
   | cons y r=>
    simp only[VU,VO] at hx;subst hx;simp only[lJ,af,Xe];rfl
  refine⟨(Vh.1 aa).1,?_⟩;show ((zD p ((zn p).getD 0 0)).length:Int)=0;rw[VR,aa];simp only[WM];rw[show (0:Int)=((0:Nat):Int) from rfl,uo hx,ag];rfl
 ·intro f hf j x hx
  have a2:f<(zn p).length:=hf;have hx:(zx p b f)[j]?=F x:=hx;obtain⟨a0,a1,i,e1,e2,e3,e4⟩:=hE f a2;have ae:=NE hp hS h4 hb h0 h1 a2 e1 e4 hx;have al:=(Vh.1 hx).1;show (kE _ ((zo p b b0 b1).fm.getD f 0+(zZ (zx p b f) 0).getD j 0)).ok=H/\_
  have a6:lj (lY (zZ (zx p b f) a0.size) j x).fE.Op=H:=((hF f a2).jD a0.size).1 _ (by
   show _∈lK (jZ (zx p b f) a0.size)
   exact Vx (KT hx))
  have a7:(zZ (zx p b f) 0).getD (j+1) 0=(zZ (zx p b f) 0).getD j 0+zK x.Op.Code:=by
   rw[VR,VR,Ap _ _ _ (show j+1<=(zx p b f).length from fh),Ap _ _ _ (show j<=(zx p b f).length from fh)];obtain⟨aj,ak⟩:=Vh.1 hx;simp only[WM];rw[Wr,hx];simp
  have ac:=GJ a6;rw[GC] at ac;have a8:(yL p b (zo p b b0 b1) fun f=>if hf:f<(zn p).length then (a4 f hf).2.2.choose else []).jM f j=oA b b0 b1 f+a0.size+(zZ (zx p b f) 0).getD j 0:=by show (zo p b b0 b1).fm.getD f 0+_=_;rw[e2]
  have a5:(yL p b (zo p b b0 b1) fun f=>if hf:f<(zn p).length then (a4 f hf).2.2.choose else []).jM f (j+1)=oA b b0 b1 f+a0.size+(zZ (zx p b f) 0).getD (j+1) 0:=by show (zo p b b0 b1).fm.getD f 0+_=_;rw[e2]
  rw[a8,a5,e2,ae];refine⟨rfl,GC _ _ _,by simp only;rw[a7,ac];omega,fun hj t ht=>?_,fun hj=>?_⟩
  ·show _=(zo p b b0 b1).fm.getD f 0+(zZ (zx p b f) 0).getD t 0
   rw[e2];unfold oO at hj;simp only[Ya,VD] at hj;have am:=((hF f a2).ok j x hx).jump hj;unfold lY;simp only;rw[Vs hj];simp only;rw[ht,Vy,Ii (a:=(a0.size:Int)) (show t<=(zx p b f).length from fh),Ii (a:=(a0.size:Int)) (show j+1<=(zx p b f).length from fh)];omega
  ·unfold oO at hj
   simp only[Bool.or_eq_false_iff,WA] at hj;unfold lY;simp only;rw[Vo fh]
 ·intro f hf j x hx hc
  exact((hF f hf).ok j x hx).lit hc
 ·intro f hf j hj
  have a2:f<(zn p).length:=hf;have hj:j<=(zx p b f).length:=hj;obtain⟨a0,a1,i,e1,e2,e3,e4⟩:=hE f a2;show 1<=(zo p b b0 b1).fm.getD f 0+(zZ (zx p b f) 0).getD j 0/\(zo p b b0 b1).fm.getD f 0+(zZ (zx p b f) 0).getD j 0<=2000000;rw[e2];have h5:=Dm (l:=zx p b f) (a:=0) hj;have h6:=(hF f a2).len;have h7:a0.size<=i.Code.size:=by rw[e4];simp only[V5];omega
  have h8:i.Code.size<=4755*4:=by
   have ad:∀ image:Int,gE image 0 1=H->(zP p b image).Code.size<=4755*4:=fun image hi=>by
    have h9:=(vK (image:=image) hp hS hb hi).2;have ah:=Dk (p:=p) (b:=b) (image:=image) (zn p).length 0 0
    have ai:(qh p b image).length<=4:=by
     show (mD p b image (zn p).length 0 0).length<=4;omega
    omega
   unfold uj zo at e1;by_cases hcs:b.ic=H/\f % 2=1
   ·rw[Vs hcs] at e1
    have:zP p b 1=i:=by simpa using e1
    rw[<-this];exact ad 1 rfl
   ·rw[Vo hcs] at e1
    have:zP p b 0=i:=by simpa using e1
    rw[<-this];exact ad 0 rfl
  unfold oA;split <;> omega
def wb:iy:=⟨0,⟨0,0,0,[]⟩⟩
def uE (x:gB)(th most:Int):iy × Bool:=
 if km x=H/\0<=th/\th<x.fu.length then
  match x.fu[th.toNat]? with
  | some m=>if mY ⟨th,oN m most⟩=H then (⟨th,oN m most⟩,H) else (wb,M)
  | none=>(wb,M)
 else (wb,M)
theorem MA (w W:V)(h:w.heap.size<=W.heap.size):gH qj w W [C Z 0,C Z 0,C Z 0,C Z 0,J I 0 0] wb:=
 Cp (x:=wb) ⟨gv,gv⟩ (Ha W W (Vz _)).mw h
theorem Ls {B:Nat} {x:ll} (h:tJ.R w B [C Z x.Pc,C Z x.Sp,C Z x.Fp,J A0 x.gK.length c0] x):(zv.sl 3).R w B [J A0 x.gK.length c0] x.gK:=by
 obtain⟨a0,a1,hc,f0,f1,f2,f3⟩:=TP h;simp only[XB,WP,Yv,XR] at hc;obtain⟨rfl,rfl⟩:=hc;exact f3
theorem ue {g:Prop} (f:g:=by
  rw[HQ.out]
  exact Vr (v:=.tuple #[.agg #[C Z 0,C Z 0,C Z 0,C Z 0,J I 0 0],X M]) (by simp[VF,results28,go_sem]) rfl ⟨I,0,rfl,MA _ _ (by simp <;> omega),gG⟩):g:=f
theorem zzx {most:Int} (h0:(jS.sl 103).R w w.heap.size [J A0 x.fo.fw.length c0] x.fo.fw)(h1:(zv.sl 3).R w w.heap.size [J A1 x.fo.fD.length c1] x.fo.fD)
  (h2:(zv.sl 3).R w w.heap.size [J A2 x.fo.fm.length c2] x.fo.fm) (h3:(lQ.sl 41).R w w.heap.size [J A3 x.fu.length c3] x.fu) (hs:zQ x<=1099511627776) (ht:fQ th) (hm:fQ most) :
  VK prog 28 #[.agg #[J A0 x.fo.fw.length c0,J A1 x.fo.fD.length c1,J A2 x.fo.fm.length c2,J A3 x.fu.length c3,C Z x.gM,C Z x.gO,C Z x.fW],C Z th,C Z most] w (F1 (uE x th most) w):=by
 have a8:nQ mM x.fu<=1099511627776:=by unfold zQ at hs;omega
 obtain⟨_,_,ab,af,ag⟩:=mQ h3;injection ab with e1 e2 e3
 subst e1 e3;clear e2;have w1:Vl Z ((x.fu.length:Int)-1)=(x.fu.length:Int)-1:=iw;obtain⟨bp,hp⟩:∃ b,km x=b:=⟨_,rfl⟩
 have HP:=fk hp;cases bp with
 | false=>
  have HQ:=fk (show uE x th most=(wb,M) from by unfold uE;rw[Vo (by rw[hp];simp)]);clear hp;go_enter func28,ntmps28;go_wp2_with(go_at_call 13;refine(zm7 (x:=x) (Ty.up _ h0 gG) (Ty.up _ h1 gG) (Ty.up _ h2 gG) (Ty.up _ h3 gG) hs).mono ?_;rw[HP.out];rintro e w1 ⟨rfl,a7,d1,rfl⟩);exact ue
 | true=>
  obtain⟨bt,a1⟩:∃ b,gE th 0 ((x.fu.length:Int)-1)=b:=⟨_,rfl⟩
  have HT:=fk a1;cases bt with
  | false=>
   have HQ:=fk (show uE x th most=(wb,M) from by
    unfold uE
    rw[Vo (fun h=>by rw[pU h.2.1 fh] at a1;cases a1)])
   clear hp a1;go_enter func28,ntmps28
   go_wp2_with(first
   | (go_at_call 13;refine(zm7 (x:=x) (Ty.up _ h0 gG) (Ty.up _ h1 gG) (Ty.up _ h2 gG) (Ty.up _ h3 gG) hs).mono ?_;rw[HP.out];rintro e w1 ⟨rfl,a7,d1,rfl⟩)
   | (go_at_call 38;refine(lf _ _ _ _).mono ?_;rw[HT.out];rintro e w9 ⟨rfl,rfl⟩))
   exact ue
  | true=>
   have hr:=zr.1 a1;obtain⟨t,rfl⟩:=VI hr.1;have a5:t<x.fu.length:=fh;have a9:(t:Int)<(x.fu.length:Int):=fh;obtain⟨g,ah,y,Aa,ca,Ab,cb,rfl,ae,a6,m0,m1,m2,m3,m4,m5,m6,p0,p1,p2,p3,p4,p5,p6⟩:=Bz h3 a5;have ac:y.fK.length<=1099511627776:=by have h1:=yD mM a6;unfold mM at h1 a8;omega
   have a0:uE x (t:Int) most=if mY ⟨(t:Int),oN y most⟩=H then (⟨(t:Int),oN y most⟩,H) else (wb,M):=by
    unfold uE;rw[Vs ⟨hp,fh,fh⟩,Vy,a6]
   obtain⟨v,hv⟩:∃ v,oN y most=v:=⟨_,rfl⟩
   have aa:v.gK.length<=1200:=by rw[<-hv];exact I0 _ _
   have a2:(⟨(t:Int),v⟩:iy).gg.gK.length<=1099511627776:=VL aa gv;rw[hv] at a0;have HV:=fk hv;obtain⟨bs,a4⟩:∃ b,mY ⟨(t:Int),v⟩=b:=⟨_,rfl⟩
   rw[a4] at a0;have HB:=fk a4;have HQ:=fk a0;clear hp a6 hv a4 a0;go_enter func28,ntmps28
   go_wp2_with(first
   | (go_at_call 13;refine(zm7 (x:=x) (Ty.up _ h0 gG) (Ty.up _ h1 gG) (Ty.up _ h2 gG) (Ty.up _ h3 gG) hs).mono ?_;rw[HP.out];rintro e w1 ⟨rfl,a7,d1,rfl⟩)
   | (go_at_call 38;refine(lf _ _ _ _).mono ?_;rw[HT.out];rintro e w9 ⟨rfl,rfl⟩))
   refine(zxB (m:=y) p0 p1 p2 (Ty.up _ p3 gG) ac hm).mono ?_;rw[HV.out];rintro e w2 ⟨Bv,cv,rfl,a3,ai,d2,rfl⟩;cases bs with
   | false=>
    go_wp2_with(go_at_call 31;refine(zfY (x:=⟨(t:Int),v⟩) (Ty.up _ (Ls a3.read) gG) a2).mono ?_;rw[HB.out];rintro e w3 ⟨rfl,ad,d3,rfl⟩);exact ue
   | true=>
    go_wp2_with(go_at_call 31;refine(zfY (x:=⟨(t:Int),v⟩) (Ty.up _ (Ls a3.read) gG) a2).mono ?_;rw[HB.out];rintro e w3 ⟨rfl,ad,d3,rfl⟩);rw[HQ.out];refine Vr (v:=.tuple #[.agg #[C Z (t:Int),C Z v.Pc,C Z v.Sp,C Z v.Fp,J Bv v.gK.length cv],X H]) (by simp[VF,results28,go_sem]) rfl ⟨Bv,cv,rfl,?_,gG⟩;exact Cp (x:=⟨(t:Int),v⟩) ht (a3.mw.same (by repeat (first | with_reducible exact gV.refl _ _ _ | ((with_reducible refine gV.base ?_ ?_) <;> (simp <;> omega)) | ((with_reducible refine gV.more ?_ ?_ _ _);rotate_left;simp <;> omega) | ((with_reducible refine gV.alloc ?_ ?_ _);rotate_left;simp <;> omega) | with_reducible apply gV.drew | with_reducible apply gV.drewN))) (by simp <;> omega)
structure kK (Vf:PG)(s:gQ)(x:gB):Prop where
 sp:x.fo=s
 rQ:∀ m∈x.fu,Good Vf m
theorem kK.s9 {Vf:PG} (hG:kP s Vf){x:gB}(h:kK Vf s x):kK Vf s (oB x).1:=by
 rcases EQ x with⟨h1,_⟩ | ⟨t,m,mv,h1,h2,h3⟩
 ·rw[h1];exact h
 ·rw[h3]
  refine⟨h.sp,fun n hn=>?_⟩;have hn:n∈x.fu.set t (mC x.fo m):=hn;rcases Xg hn with hn | rfl
  ·exact h.rQ n hn
  ·rw[h.sp]
   exact Q4 hG (h.rQ m (Vx h1)) h2
theorem kK.run {s:gQ}{Vf:PG}(hG:kP s Vf):∀(f:Nat){x:gB}(ts:D Int),kK Vf s x->kK Vf s (oR f x ts).1
 | 0,x,ts,h=>h
 | f+1,x,ts,h=>by
  unfold oR;split
  ·exact h.s9 hG
  ·exact kK.run hG f _ (h.s9 hG)
theorem Pe {sl:Int} (h:km (zB s th sl).1=H):(zB s th sl).1=qq s th.toNat sl/\gE th 1 3=H:=by
 unfold zB at h |-;split
 ·rename_i hc
  exact⟨rfl,hc.1⟩
 ·rename_i hc
  rw[Vo hc] at h;exact absurd h gv
theorem PW {Vd:Nat->D Int} (hok:ke (zo p b b0 b1)=H)(hG:kP (zo p b b0 b1) (yL p b (zo p b b0 b1) Vd))(n:Nat)(sl:Int):kK (yL p b (zo p b b0 b1) Vd) (zo p b b0 b1) (qq (zo p b b0 b1) n sl):=by
 refine⟨rfl,fun m hm=>?_⟩;have hm:m∈VP n (qY (zo p b b0 b1)).1:=hm;rw[XQ hm];unfold qY;rw[Vs hok];refine Ry hG ?_ rfl rfl rfl;have h0:=hG.AX 0 hG.main.1;show (zo p b b0 b1).fm.headD 0=_;cases he:(zo p b b0 b1).fm with
 | nil=>rw[he] at h0;simp at h0
 | cons e r=>
  rw[he] at h0;simp only[VU,VO] at h0;exact h0
theorem Tp (h:jj v):gE v (-549755813888) 549755813887=H:=zr.2 ⟨by have:=h.1;omega,by have:=h.2;omega⟩
theorem QH {Vf:PG} (hx:km x=H)(h:kK Vf s x){t:Nat}(ht:t<x.fu.length){most:Int}(hm:0<=most):∃ m,x.fu[t]?=F m/\uE x t most=(⟨t,oN m most⟩,H)/\oN m most=⟨m.Pc,m.Sp,m.Fp,(m.fK.drop m.Sp.toNat).take most.toNat⟩/\mY ⟨t,oN m most⟩=H:=by
 obtain⟨h1,h2,h3,h4,h5,h6⟩:=CK.1 hx;obtain⟨m,a1⟩:∃ m,x.fu[t]?=F m:=⟨_,Vq ht⟩
 have a0:=Vx a1;have a2:=h6 m a0;have hg:=h.rQ m a0
 have hv:oN m most=⟨m.Pc,m.Sp,m.Fp,(m.fK.drop m.Sp.toNat).take most.toNat⟩:=by
  unfold oN;rw[Vs ⟨a2,hm⟩]
 have hs:mY ⟨t,oN m most⟩=H:=by
  rw[hv];unfold mY ut;simp only[Vt];have g1:=hg.pc;have g2:=hg.fp;have g3:=hg.sp;have g4:=hg.len;refine⟨zr.2 ⟨by omega,by omega⟩,⟨zr.2 g3,Vv ?_⟩,zr.2 g1,zr.2 ⟨by omega,by omega⟩,Xm.2 fun v hv=>Tp (hg.sm v (YX (Yu hv)))⟩;simp only[WK,WL];omega
 refine⟨m,a1,?_,hv,hs⟩;unfold uE;rw[Vs ⟨hx,by omega,by omega⟩,Vy,a1];simp only;rw[Vs hs]
theorem JG {x:iy} (h:mY x=H):(x.gg.Pc::x.gg.Sp::x.gg.Fp::x.gg.gK).all oV=H/\0<=x.ij/\x.ij<=2:=by
 unfold mY ut at h;simp only[Vt,VD] at h;obtain⟨h1,⟨h2,h3⟩,h4,h5,h6⟩:=h;have h1:=zr.1 h1;have h2:=zr.1 h2;have h4:=zr.1 h4;have h5:=zr.1 h5;refine⟨?_,h1⟩;simp only[List.all_cons,Vt];exact⟨zr.2 ⟨fh,fh⟩,zr.2 ⟨fh,fh⟩,zr.2 h5,h6⟩
theorem JV {x:iy} (h:mY x=H)(hl:x.gg.gK.length<=1000000){s:G}{t:D UInt8}(hs:s.data.toList=(li x).data.toList++t):iN s 0=(x.ij.toNat,(lh x.ij.toNat).length,H)/\
  iX s (lh x.ij.toNat).length=(x.gg.Pc::x.gg.Sp::x.gg.Fp::x.gg.gK,(kJ (x.gg.Pc::x.gg.Sp::x.gg.Fp::x.gg.gK)).data.toList.length,H)/\(li x).data.toList.length=(lh x.ij.toNat).length+(kJ (x.gg.Pc::x.gg.Sp::x.gg.Fp::x.gg.gK)).data.toList.length:=by
 obtain⟨h1,h2,h3⟩:=JG h
 have he:(li x).data.toList=lh x.ij.toNat++(kJ (x.gg.Pc::x.gg.Sp::x.gg.Fp::x.gg.gK)).data.toList:=by
  unfold li;rw[Vs h,IW];congr 1;obtain⟨n,hn⟩:=VI h2;rw[hn];exact zH fh
 have hd:s.data.toList.drop 0=lh x.ij.toNat++((kJ (x.gg.Pc::x.gg.Sp::x.gg.Fp::x.gg.gK)).data.toList++t):=by rw[WQ,hs,he,VM]
 have a0:=WY (List.drop (lh x.ij.toNat).length) hd;rw[Xx,Yg,VJ] at a0;exact⟨C8 (a:=0) fh hd,(RE (by simp;omega) h1 a0).1,by rw[he,Vk]⟩
theorem SC {x:iy} (h:mY x=H)(hl:x.gg.gK.length<=1000000):qU (li x)=(x,H):=by
 obtain⟨h1,h2,_⟩:=JV h hl (s:=li x) (t:=[]) gm;obtain⟨_,h3,_⟩:=JG h;unfold qU;rw[h1];simp only;rw[h2]
 have hm:pw (x.ij.toNat:Nat) (x.gg.Pc::x.gg.Sp::x.gg.Fp::x.gg.gK)=x:=by
  have:((x.ij.toNat:Nat):Int)=x.ij:=fh;rw[this];rfl
 simp only;rw[hm,Vs ⟨trivial,gm,rfl⟩]
theorem RG {x:iy} (h:mY x=H)(hl:x.gg.gK.length<=1000000){t:G}(ht:t.size≠0):(qU (li x++t)).2=M:=by
 obtain⟨h1,h2,h3⟩:=JV h hl (s:=li x++t) (t:=t.data.toList) (IW _ _);cases hd:(qU (li x++t)).2 with
 | false=>rfl
 | true=>
  have hc:(iX (li x++t) (iN (li x++t) 0).2.1).2.2=H/\3<=(iX (li x++t) (iN (li x++t) 0).2.1).1.length/\li (pw (iN (li x++t) 0).1 (iX (li x++t) (iN (li x++t) 0).2.1).1)=li x++t:=by
   unfold qU at hd;split at hd
   ·rename_i hc;exact hc
   ·cases hd
  have a0:(iX (li x++t) (iN (li x++t) 0).2.1).1.length<=1099511627775:=by
   rw[h1];simp only;rw[h2];simp;omega
  have hm:=(JR hc.1 hc.2.1 a0 hc.2.2).2;rw[h1] at hm;simp only at hm;rw[h2] at hm;simp only at hm;rw[<-h3,yO,nY] at hm;omega
end Go.Proofs.YthgbglbaemelhaaGreat
