/-
  PART.
-/
import Derived.Test.YthgbglbaemelhaaGreatM23LawThreadsApart
set_option linter.unusedVariables false
set_option linter.unusedSimpArgs false
set_option maxRecDepth 100000
set_option maxHeartbeats 8000000
namespace Go.Proofs.YthgbglbaemelhaaGreat
open Value renaming slice->G,int->J,bool->H
open IntKind renaming i64->Z
open Option renaming none->C,some->D
open Obj renaming cells->F
open Bool renaming false->I,true->M
open Go renaming World->U,results->Rv,Calls->RD,Addr->RJ,TypeId->R5,yielded->Th
open World renaming cell?->Rb,frozen?->Rx
open _root_.Int renaming toNat_natCast->Ry
open RowKit renaming wrap64->SN
open Region renaming wanted->RV,ready->Sn,noSelect->TZ,free->Wu
open Tryz
open Go.RowKit
variable {A A0 A1 A2 A3 A4 Ao:X RJ}{B:Q (Nat × Obj)}{Ra c c0 c1 c2 c3 c4 co gc gm:Nat}{W W1 W2 Y w:U}{bad:Bool}{m:fv}{row:Array Value}{s:gk}
theorem hJ.make {m':fv} (hrow:row=#[J Z m'.Pc,J Z m'.Sp,J Z m'.Fp,G A m.pm.length c,G Ao m.If.length co,J Z m'.rc,J Z m'.Value])
  (hF:fU zG W1 W2 [J Z m.Pc,J Z m.Sp,J Z m.Fp,G A m.pm.length c,G Ao m.If.length co,J Z m.rc,J Z m.Value] m)
  (hg1:fu w W1) (hg2:fu W1 W2) (hB:∀ p∈B,W1.heap[p.1]?=D p.2) (hk:kX Ra m') (hs:m'.pm=m.pm) (ho:m'.If=m.If) :
  hJ B w ((W2.alloc (F row 41)).alloc (F #[.pointer (D ⟨W2.heap.size,0,C⟩),H I] 191)) Ra (W2.heap.size+1) W2.heap.size I m':=by
 obtain⟨S9,hO,hN,hL⟩:=hF;have a5:=Ty.iY _ hO;obtain⟨A',c',S,a6,a7,So,a0,rfl,_,_,_,h3,h4,_,_⟩:=yp hO;injection a0 with _ a0
 injection a0 with _ a0
 injection a0 with _ a0
 injection a0 with e3 a0
 injection a0 with e4 _
 injection e3 with a1 a2 a3
 injection e4 with b1 b2 b3
 subst a1 a3 b1 b3;rw[RM] at hN;obtain⟨n1,n2,n3⟩:=hN;have a4:fu W2 ((W2.alloc (F row 41)).alloc (F #[.pointer (D ⟨W2.heap.size,0,C⟩),H I] 191)):=((fu.refl _).alloc _).alloc _;have a8:=hg1.size;have a9:=hg2.size;refine⟨A,c,S,Ao,co,So,⟨?_,?_,?_,?_,fun b hb hm=>n3 b hb b hm rfl,by omega,?_⟩,hk,(hg1.trans hg2).trans a4,by omega,by omega,fun b hb=>?_,fun b hb=>?_,fun p hp=>?_⟩
 ·have h:=Re (W2.alloc (F row 41)) (F #[.pointer (D ⟨W2.heap.size,0,C⟩),H I] 191)
  rw[Rz] at h;exact h
 ·rw[hs,ho,<-hrow]
  exact zj (Re W2 _) ((fu.refl _).alloc _)
 ·rw[hs]
  exact Has.fy ⟨h3,n1⟩ a4
 ·rw[ho]
  exact Has.fy ⟨h4,n2⟩ a4
 ·refine⟨fun hm=>?_,fun hm=>?_,fun hm=>?_,fun hm=>?_⟩
  ·have:=a5 _ (RH _ hm);omega
  ·have:=a5 _ (RK _ hm);omega
  ·have:=a5 _ (RH _ hm);omega
  ·have:=a5 _ (RK _ hm);omega
 ·have:=hL b (RH _ hb);omega
 ·have:=hL b (RK _ hb);omega
 ·have h1:=hB p hp
  have hl:=(blt h1)
  refine⟨zj (zj h1 hg2) a4,by omega,by omega,fun hm=>?_,fun hm=>?_⟩
  ·have:=hL _ (RH _ hm);omega
  ·have:=hL _ (RK _ hm);omega
theorem hJ.fresh (h:hJ B Y W Ra gc gm bad m):∃ A c Ao co,W.heap[gm]?=D (F #[J Z m.Pc,J Z m.Sp,J Z m.Fp,G A m.pm.length c,G Ao m.If.length co,J Z m.rc,J Z m.Value] 41 (0,0))/\
  ∃ S,Has zG W [J Z m.Pc,J Z m.Sp,J Z m.Fp,G A m.pm.length c,G Ao m.If.length co,J Z m.rc,J Z m.Value] m S/\(∀ b∈S,Y.heap.size<=b)/\∀ p∈B,p.1∉S:=by
 obtain⟨A,c,S,Ao,co,So,h⟩:=h;refine⟨A,c,Ao,co,h.iF.jD,S++So,⟨xX h.ok.pc h.ok.sp h.ok.fp h.iF.stack.1 h.iF.out.1 h.ok.st h.ok.va,RM.2 ⟨h.iF.stack.2,h.iF.out.2,fun a ha b hb he=>h.iF.jj a ha (he ▸ hb)⟩⟩,fun b hb=>?_,fun p hp hm=>?_⟩
 ·rcases Rr.1 hb with hb | hb
  ·exact h.ls b hb
  ·exact h.lo b hb
 ·obtain⟨_,_,_,h4,h5⟩:=h.kb p hp
  rcases Rr.1 hm with hb | hb
  ·exact h4 hb
  ·exact h5 hb
theorem hJ.all (h:hJ B Y W Ra gc gm bad m):∃ A c Ao co S,
  Rb W ⟨gc,0,C⟩=D (.pointer (D ⟨gm,0,C⟩))/\Rb W ⟨gc,1,C⟩=D (H bad)/\(∀ j,Rx W ⟨gc,j,C⟩=I)/\gc<W.heap.size/\
  W.heap[gm]?=D (F #[J Z m.Pc,J Z m.Sp,J Z m.Fp,G A m.pm.length c,G Ao m.If.length co,J Z m.rc,J Z m.Value] 41 (0,0))/\kX Ra m/\
  Has zG W [J Z m.Pc,J Z m.Sp,J Z m.Fp,G A m.pm.length c,G Ao m.If.length co,J Z m.rc,J Z m.Value] m S/\(∀ b∈S,Y.heap.size<=b)/\∀ p∈B,p.1∉S:=by
 obtain⟨_,_,_,_,y0,y1,yf,yl,_,_,_,_,_,_,_,_,_,hk⟩:=h.cells;obtain⟨A,c,Ao,co,e,S,h1,h2,h3⟩:=h.fresh;exact⟨A,c,Ao,co,S,y0,y1,yf,yl,e,hk,h1,h2,h3⟩
def OM (m x:fv)(A0:X RJ)(c0:Nat)(A1:X RJ)(c1:Nat)(Ra:Nat)(w:U)(r:Ending)(w':U):Prop:=
 ∃ B0 d0 B1 d1,r=.returned (.agg #[J Z x.Pc,J Z x.Sp,J Z x.Fp,G B0 x.pm.length d0,G B1 x.If.length d1,J Z x.rc,J Z x.Value])/\fu w w'/\kX Ra x/\
  (fU zG w w' [J Z x.Pc,J Z x.Sp,J Z x.Fp,G B0 x.pm.length d0,G B1 x.If.length d1,J Z x.rc,J Z x.Value] x∨(x = { m with rc:=2 }/\B0=A0/\d0=c0/\B1=A1/\d1=c1))
theorem Mv (h:jF s.fo s.ft m.Pc 0=(-1,-1)):ji s m = { m with rc:=2 }:=by
 unfold ji loc;rw[h];rfl
theorem Pu {j:Nat} {y:gv} {b:Int} (h:jF s.fo s.ft m.Pc 0=((j:Int),m.Pc-b))(hy:s.fo[j]?=D y) :
  ji s m=if (je y.Code (m.Pc-b)).ok=M then (((zA s.ii { m with Pc:=m.Pc+((je y.Code (m.Pc-b)).n:Int) } (je y.Code (m.Pc-b)).code (je y.Code (m.Pc-b)).arg).bind lf).getD { m with rc:=2 }) else { m with rc:=2 }:=by
 unfold ji loc;rw[h];simp only;rw[Ro K9,Ry,hy]
theorem kX.stop (h:kX Ra m):kX (Ra+1) { m with rc:=2 }:=
 have i2:fE 2:=⟨qo,qo⟩
 ⟨h.len,by have:=h.out;show m.If.length<=_;omega,h.pc,h.sp,h.fp,i2,h.va⟩
theorem PD (w:U)(ca cb cc cd:Array Value)(ta tb tc td:R5):((((w.alloc (F ca ta)).alloc (F cb tb)).alloc (F cc tc)).alloc (F cd td)).heap[w.heap.size]?=D (F ca ta (0,0))/\((((w.alloc (F ca ta)).alloc (F cb tb)).alloc (F cc tc)).alloc (F cd td)).heap[w.heap.size+1]?=D (F cb tb (0,0))/\
  ((((w.alloc (F ca ta)).alloc (F cb tb)).alloc (F cc tc)).alloc (F cd td)).heap[w.heap.size+1+1]?=D (F cc tc (0,0))/\((((w.alloc (F ca ta)).alloc (F cb tb)).alloc (F cc tc)).alloc (F cd td)).heap[w.heap.size+1+1+1]?=D (F cd td (0,0)):=by
 refine⟨zj (Re w _) gF,?_,?_,?_⟩
 ·have h:=Re (w.alloc (F ca ta)) (F cb tb)
  rw[Rz] at h;exact zj h gF
 ·have h:=Re ((w.alloc (F ca ta)).alloc (F cb tb)) (F cc tc)
  rw[Rz,Rz] at h;exact zj h gF
 ·have h:=Re (((w.alloc (F ca ta)).alloc (F cb tb)).alloc (F cc tc)) (F cd td)
  rw[Rz,Rz,Rz] at h;exact h
theorem uV {g:Prop} (f:g:=by
  rw[HS.out]
  exact Rj (v:=.agg #[J Z m.Pc,J Z m.Sp,J Z m.Fp,G A3 m.pm.length c3,G A4 m.If.length c4,J Z 2,J Z m.Value]) (by simp[Rv,results80,go_sem,r0,r1,r2,r3,r4,r5,r6]) rfl ⟨A3,c3,A4,c4,rfl,hGX,HKS.out,.inr ⟨rfl,rfl,rfl,rfl,rfl⟩⟩):g:=f
theorem zvu (h0:(iG.sl 103).R w w.heap.size [G A0 s.fo.length c0] s.fo)(h1:(zr.sl 3).R w w.heap.size [G A1 s.ft.length c1] s.ft)
  (h2:(zr.sl 3).R w w.heap.size [G A2 s.ii.length c2] s.ii) (h3:(zr.sl 3).R w w.heap.size [G A3 m.pm.length c3] m.pm) (h4:(zr.sl 3).R w w.heap.size [G A4 m.If.length c4] m.If)
  (hl:s.fo.length=s.ft.length) (hst:∀ x∈s.fo,x.Code.size<=1099511627776) (hbs:∀ b∈s.ft,fP b 1 1000000=M) (hk:kX Ra m) (hN:Ra<=1099511620000) (hm0:m.rc=0) :
  RD prog 80 #[.agg #[G A0 s.fo.length c0,G A1 s.ft.length c1,G A2 s.ii.length c2],.agg #[J Z m.Pc,J Z m.Sp,J Z m.Fp,G A3 m.pm.length c3,G A4 m.If.length c4,J Z m.rc,J Z m.Value]] w (OM m (ji s m) A3 c3 A4 c4 (Ra+1) w):=by
 obtain⟨_,_,aV,bR,aA⟩:=kJ h0;injection aV with e1 e2 e3
 subst e1 e3;clear e2;obtain⟨_,_,aV,bJ,bK⟩:=kJ h2;injection aV with e1 e2 e3
 subst e1 e3;clear e2;have a8:fu w ((((w.alloc (F #[G A0 s.fo.length c0,G A1 s.ft.length c1,G A2 s.ii.length c2] 28)).alloc (F #[J Z m.Pc,J Z m.Sp,J Z m.Fp,G A3 m.pm.length c3,G A4 m.If.length c4,J Z 0,J Z m.Value] 41)).alloc (F #[J Z 0,J Z 0,J Z 0,G C 0 0,G C 0 0,J Z 0,J Z 0] 41)).alloc (F #[J Z m.Pc,J Z m.Sp,J Z m.Fp,G A3 m.pm.length c3,G A4 m.If.length c4,J Z 2,J Z m.Value] 41)):=gG;obtain⟨aq,ar,ag,au⟩:=PD w #[G A0 s.fo.length c0,G A1 s.ft.length c1,G A2 s.ii.length c2] #[J Z m.Pc,J Z m.Sp,J Z m.Fp,G A3 m.pm.length c3,G A4 m.If.length c4,J Z 0,J Z m.Value] #[J Z 0,J Z 0,J Z 0,G C 0 0,G C 0 0,J Z 0,J Z 0] #[J Z m.Pc,J Z m.Sp,J Z m.Fp,G A3 m.pm.length c3,G A4 m.If.length c4,J Z 2,J Z m.Value] 28 41 41 41;have k0:=Ty.up _ h0 a8;have k1:=Ty.up _ h1 a8;have k2:=Ty.up _ h2 a8;have k3:=Ty.up _ h3 a8;have k4:=Ty.up _ h4 a8;have aD:=fh hl;have aE:=fh hst;have aC:=fh hbs;have HKS:=fh hk.stop;have an:=hk.pc;have i1:fE 1:=⟨qo,qo⟩
 clear hl;obtain⟨g,hg⟩:∃ g,w.heap.size=g:=⟨_,rfl⟩
 go_enter func80,ntmps80;go_upto_region 5 with(fail);rw[hg] at aq ar ag au;generalize ((((w.alloc _).alloc _).alloc _).alloc _)=Y at a8 aq ar ag au k0 k1 k2 k3 k4 |-;have bL:=a8.size;clear h0 h1 h2 h3 h4;obtain⟨a0,a1,a2,af,al⟩:=iS aq;obtain⟨aF,aG,aH,aI,aJ,aK,aL,bf,bl⟩:=zK ar;obtain⟨z0,z1,z2,z3,z4,z5,z6,zf,zl⟩:=zK ag;obtain⟨x0,x1,x2,x3,x4,x5,x6,xf,xl⟩:=zK au;rcases CW s.fo s.ft m.Pc 0 with h | ⟨j,y,b,hj,hb,h,bH,bI⟩
 ·have HL:=fh h
  have HQ:=fh (Mv h);clear h hst hbs hk;go_wp2_with(go_at_call 129;(with_reducible refine(zlu (imgs:=s.fo) (bases:=s.ft) (es:=s.ii) (e:=m.Pc) (Ty.up _ k0 gG) (Ty.up _ k1 gG) aD.out aE.out aC.out an).mono ?_);rw[HL.out];rintro e w1 ⟨rfl,a6,d1,rfl⟩);rw[HQ.out];have h9:=lO ag (J Z m.Pc) (J Z m.Sp) (J Z m.Fp) (G A3 m.pm.length c3) (G A4 m.If.length c4) (J Z 2) (J Z m.Value);generalize (((((((Y.setCell _ _).setCell _ _).setCell _ _).setCell _ _).setCell _ _).setCell _ _).setCell _ _)=Q9 at h9 |-;have hGX:=h9.2.fy a8 (fun b hb'=>by simp at hb';omega);obtain⟨r0,r1,r2,r3,r4,r5,r6,_,_⟩:=zK (zj h9.1 (fu.of Q9 a6 d1));exact Rj (v:=.agg #[J Z m.Pc,J Z m.Sp,J Z m.Fp,G A3 m.pm.length c3,G A4 m.If.length c4,J Z 2,J Z m.Value]) (by simp[Rv,results80,go_sem,r0,r1,r2,r3,r4,r5,r6]) rfl ⟨A3,c3,A4,c4,rfl,hGX.more a6 d1,HKS.out,.inr ⟨rfl,rfl,rfl,rfl,rfl⟩⟩
 ·rw[RF] at h
  have HL:=fh h;have bt:j<s.fo.length:=(Rd.1 hj).1;obtain⟨g',bB,y',Ax,cx,rfl,bs,ao,m0,m1,p0,bw⟩:=qI k0 bt;have bA:y'=y:=by rw[hj] at ao;injection ao with ao;exact ao.symm
  subst bA;have bi:y'.Code.size<=1099511627776:=hst y' (Rt hj);have bp:=zu.1 (hbs b (Rt hb));have bb:fE (m.Pc-b):=⟨by have:=an.1;omega,by have:=an.2;omega⟩
  have bM:¬ ((j:Int)<0):=K9;have bN:(j:Int)<(s.fo.length:Int):=K9;have aj:=Pu h hj;obtain⟨r,hr⟩:∃ r,je y'.Code (m.Pc-b)=r:=⟨_,rfl⟩
  rw[hr] at aj;have HR:=fh hr;have aB:=wv hr;have bc:=AG hr;have aQ:=G6 hr;obtain⟨bC,aT⟩:∃ q,r.ok=q:=⟨_,rfl⟩
  rw[aT] at aj aB;cases bC with
  | false=>
   have HQ:=fh (aj.trans (Ro II));clear h hst hbs hk aj aB bc aQ hr hj hb ao
   go_wp2_with(first
    | (go_at_call 129;(with_reducible refine(zlu (imgs:=s.fo) (bases:=s.ft) (es:=s.ii) (e:=m.Pc) (Ty.up _ k0 gG) (Ty.up _ k1 gG) aD.out aE.out aC.out an).mono ?_);rw[HL.out];rintro e w1 ⟨rfl,a6,d1,rfl⟩;have bk:=zd m0 a6 d1;have b7:=zd a0 a6 d1)
    | (go_at_call 130;(with_reducible refine(zgo y'.Code (m.Pc-b) _ bi bb).mono ?_);rw[HR.out];rintro e w2 ⟨rfl,ap,d2,rfl⟩))
   rw[HQ.out];have h9:=lO ag (J Z m.Pc) (J Z m.Sp) (J Z m.Fp) (G A3 m.pm.length c3) (G A4 m.If.length c4) (J Z 2) (J Z m.Value);generalize (((((((Y.setCell _ _).setCell _ _).setCell _ _).setCell _ _).setCell _ _).setCell _ _).setCell _ _)=Q9 at h9 |-;have hGX:=h9.2.fy a8 (fun b hb'=>by simp at hb';omega);have ba:fu Q9 ((fy (fy Q9 a6 d1) ap d2).alloc (F #[J Z r.code,J Z r.arg] 142)):=gG;obtain⟨r0,r1,r2,r3,r4,r5,r6,_,_⟩:=zK (zj h9.1 ba);exact Rj (v:=.agg #[J Z m.Pc,J Z m.Sp,J Z m.Fp,G A3 m.pm.length c3,G A4 m.If.length c4,J Z 2,J Z m.Value]) (by simp[Rv,results80,go_sem,r0,r1,r2,r3,r4,r5,r6]) rfl ⟨A3,c3,A4,c4,rfl,hGX.trans ba,HKS.out,.inr ⟨rfl,rfl,rfl,rfl,rfl⟩⟩
  | true=>
   have HQ:=fh (aj.trans (Rs rfl));have b4:BD r.code r.arg:=aQ;have bm:=fh b4;have bo:fE r.arg:=⟨K9,K9⟩
   obtain⟨_,bP,bQ,_,bq,br⟩:=aB rfl
   have ay:jV m<=1099511627776:=by
    have h1:=hk.len;have h2:=hk.out;unfold jV;omega
   have bn:=fh ay;have HM:=fh hk;have aU:fE m.rc:=hk.st;clear h hst hbs aj aB bc aQ b4 hr hj hb ao ay
   go_upto_region 11 with(first
    | (go_at_call 129;(with_reducible refine(zlu (imgs:=s.fo) (bases:=s.ft) (es:=s.ii) (e:=m.Pc) (Ty.up _ k0 gG) (Ty.up _ k1 gG) aD.out aE.out aC.out an).mono ?_);rw[HL.out];rintro e w1 ⟨rfl,a6,d1,rfl⟩;have bk:=zd m0 a6 d1;have b7:=zd a0 a6 d1)
    | (go_at_call 130;(with_reducible refine(zgo y'.Code (m.Pc-b) _ bi bb).mono ?_);rw[HR.out];rintro e w2 ⟨rfl,ap,d2,rfl⟩))
   have a9:fu Y ((fy (fy Y a6 d1) ap d2).alloc (F #[J Z r.code,J Z r.arg] 142)):=gG;have ak:=Re (fy (fy Y a6 d1) ap d2) (F #[J Z r.code,J Z r.arg] 142);rw[kH,kH] at ak;obtain⟨g5,bd⟩:∃ g5,Y.heap.size+a6.size+ap.size=g5:=⟨_,rfl⟩
   rw[bd] at ak |-;have q0:=zj aq a9;have q1:=zj ar a9;have q2:=zj ag a9;have q3:=zj au a9;have bj:=Ty.up _ k2 a9;have aW:=Ty.up _ k3 a9;have aX:=Ty.up _ k4 a9;generalize (fy (fy Y a6 d1) ap d2).alloc _=W1 at a9 ak q0 q1 q2 q3 bj aW aX |-;have am:=a8.trans a9;have aA:=zhJ (x:=m) an hk.sp hk.fp aW aX aU hk.va bn.out;clear k0 k1 k2 k3 k4 a0 a1 a2 af al aF aG aH aI aJ aK aL bf bl z0 z1 z2 z3 z4 z5 z6 zf zl x0 x1 x2 x3 x4 x5 x6 xf xl m0 m1 p0 bw aq ar ag au bk b7 bs bd hk;rw[hm0] at aA;have b5:=fh aA;clear aA;obtain⟨a0,a1,a2,af,al⟩:=iS q0;obtain⟨aF,aG,aH,aI,aJ,aK,aL,bf,bl⟩:=zK q1;obtain⟨o0,o1,aY,aZ,ol⟩:=jT ak;have bz:SN (m.Pc+(r.n:Int))=m.Pc+(r.n:Int):=qC K9 K9;go_upto_region 14 with(go_at_call 79;(with_reducible refine b5.out.mono ?_);rintro e w3 ⟨B0,d0,B1,d1,rfl,b8,b0,d3,rfl⟩)
   have hC:=hJ.make (B:=[(g,F #[G (D ⟨g',bB,C⟩) s.fo.length c0,G A1 s.ft.length c1,G A2 s.ii.length c2] 28 (0,0)),(g+1,F #[J Z m.Pc,J Z m.Sp,J Z m.Fp,G A3 m.pm.length c3,G A4 m.If.length c4,J Z 0,J Z m.Value] 41 (0,0)),(g+1+1,F #[J Z 0,J Z 0,J Z 0,G C 0 0,G C 0 0,J Z 0,J Z 0] 41 (0,0)),(g+1+1+1,F #[J Z m.Pc,J Z m.Sp,J Z m.Fp,G A3 m.pm.length c3,G A4 m.If.length c4,J Z 2,J Z m.Value] 41 (0,0)),(g5,F #[J Z r.code,J Z r.arg] 142 (0,0))]) (Ra:=Ra) (m':={ m with Pc:=m.Pc+(r.n:Int) }) (row:=#[J Z (m.Pc+(r.n:Int)),J Z m.Sp,J Z m.Fp,G B0 m.pm.length d0,G B1 m.If.length d1,J Z 0,J Z m.Value]) (by simp[hm0]) b8 (fu.refl _) (fu.of W1 b0 d3) (by
    intro p hp;simp only[RO,Sq,Tm] at hp;rcases hp with rfl | rfl | rfl | rfl | rfl
    ·exact q0
    ·exact q1
    ·exact q2
    ·exact q3
    ·exact ak) ⟨HM.out.len,HM.out.out,⟨by show _<=m.Pc+(r.n:Int);omega,by show m.Pc+(r.n:Int)<=_;omega⟩,HM.out.sp,HM.out.fp,HM.out.st,HM.out.va⟩ rfl rfl
   rw[kH] at hC;obtain⟨gm,be⟩:∃ gm,W1.heap.size+b0.size=gm:=⟨_,rfl⟩
   rw[be] at hC |-;obtain⟨mm,aS⟩:∃ mm,({ m with Pc:=m.Pc+(r.n:Int) }:fv)=mm:=⟨_,rfl⟩
   have bu : -4611686018427387904<=mm.Pc/\mm.Pc<=4611686018427387904:=by rw[<-aS];exact⟨by show _<=m.Pc+(r.n:Int);omega,by show m.Pc+(r.n:Int)<=_;omega⟩
   have aO:=HQ.out;rw[aS] at hC aO;generalize ((fy W1 b0 d3).alloc _).alloc _=wc at hC |-;have HC:=fh hC;have b6:=fh aO;have bG:=fh hm0;clear hC aS be HQ aO q0 q1 q2 q3 ak aW aX aF aG aH aI aJ aK aL bf bl o0 o1 aY aZ ol a0 a1 a2 af al bz b5 b8 hm0;obtain⟨q0,q1,q2,qf,ql⟩:=iS (HC.out.kept (g:=g) (.head _));obtain⟨o0,o1,aY,aZ,ol⟩:=jT (HC.out.kept (g:=g5) (.tail _ (.tail _ (.tail _ (.tail _ (.head _))))));go_upto_region 15 with(go_at_call 131;(with_reducible refine(Nr (es:=s.ii) HC.out bj K9 K9 bu ⟨bq,br⟩ bm.out bo).mono ?_);rintro e w4 ⟨rfl,b1,m1,av,bh⟩);have b9:ji s m=((Ww b1 m1).bind lf).getD { m with rc:=2 }:=by rw[b6.out,bh];rfl
   have az:=fh b9;clear b9 bh q0 q1 q2 qf ql o0 o1 aY aZ ol b6;obtain⟨Ay,cy,a4,a5,y0,y1,yf,yl,z0,z1,z2,z3,z4,z5,z6,zf,zl,a3⟩:=av.cells;obtain⟨x0,x1,x2,x3,x4,x5,x6,xf,xl⟩:=zK (av.kept (g:=g+1+1+1) (.tail _ (.tail _ (.tail _ (.head _)))));obtain⟨u0,u1,u2,u3,u4,u5,u6,uf,ul⟩:=zK (av.kept (g:=g+1+1) (.tail _ (.tail _ (.head _))));have ad:=fh av;clear av;cases b1 with
   | true=>
    have HS:=fh (az.out.trans rfl);go_wp2_with(fail);have hz:=(ad.out.kept (g:=g+1+1) (.tail _ (.tail _ (.head _))))
    have h9:=lO hz (J Z m.Pc) (J Z m.Sp) (J Z m.Fp) (G A3 m.pm.length c3) (G A4 m.If.length c4) (J Z 2) (J Z m.Value);generalize (((((((w4.setCell _ _).setCell _ _).setCell _ _).setCell _ _).setCell _ _).setCell _ _).setCell _ _)=Q9 at h9 |-;obtain⟨r0,r1,r2,r3,r4,r5,r6,_,_⟩:=zK h9.1;have hGX:=h9.2.fy (am.trans ad.out.grow) (fun b hb'=>by simp at hb';omega);exact uV
   | false=>
    by_cases hpz:m1.Pc=0
    ·have aM:=ad.out.num (i:=5) (v:=J Z 1) (m':={ m1 with rc:=1 }) rfl rfl ⟨a3.len,a3.out,a3.pc,a3.sp,a3.fp,i1,a3.va⟩ (fun _ _=>rfl)
     go_upto_region 17 with(fail);generalize w4.setCell _ _=w5 at aM |-;have ai:=fh aM;clear aM;clear Ay cy a4 a5 y0 y1 yf yl z0 z1 z2 z3 z4 z5 z6 zf zl a3 x0 x1 x2 x3 x4 x5 x6 xf xl u0 u1 u2 u3 u4 u5 u6 uf ul;obtain⟨Ay,cy,a4,a5,SS,y0,y1,yf,yl,eM,a3,aa,ab,ac⟩:=ai.out.all;obtain⟨z0,z1,z2,z3,z4,z5,z6,zf,zl⟩:=zK eM;obtain⟨x0,x1,x2,x3,x4,x5,x6,xf,xl⟩:=zK (ai.out.kept (g:=g+1+1+1) (.tail _ (.tail _ (.tail _ (.head _)))));obtain⟨u0,u1,u2,u3,u4,u5,u6,uf,ul⟩:=zK (ai.out.kept (g:=g+1+1) (.tail _ (.tail _ (.head _))));obtain⟨q,hq⟩:∃ q,fP m1.Sp 0 1199=q:=⟨_,rfl⟩
     cases q with
     | false=>
      have HS:=fh (az.out.trans (show ((D m1).bind lf).getD { m with rc:=2 } = { m with rc:=2 } from by show (lf m1).getD _=_;unfold lf;rw[Rs hpz,sG hq];rfl));have HA:=fh (show (I || !fP m1.Sp 0 1199)=M from by rw[hq];rfl);clear hq;go_upto_region 19 with(go_at_call 132;(with_reducible refine(ai.out.at_ (a:=m1.Sp)).mono ?_);rw[HA.out];rintro e w6 ⟨rfl,aw⟩);have a7:=fh aw;clear aw;clear Ay cy a4 a5 y0 y1 yf yl z0 z1 z2 z3 z4 z5 z6 zf zl a3 x0 x1 x2 x3 x4 x5 x6 xf xl u0 u1 u2 u3 u4 u5 u6 uf ul eM aa ab ac;obtain⟨Ay,cy,a4,a5,SS,y0,y1,yf,yl,eM,a3,aa,ab,ac⟩:=a7.out.all;obtain⟨z0,z1,z2,z3,z4,z5,z6,zf,zl⟩:=zK eM;obtain⟨x0,x1,x2,x3,x4,x5,x6,xf,xl⟩:=zK (a7.out.kept (g:=g+1+1+1) (.tail _ (.tail _ (.tail _ (.head _)))));obtain⟨u0,u1,u2,u3,u4,u5,u6,uf,ul⟩:=zK (a7.out.kept (g:=g+1+1) (.tail _ (.tail _ (.head _))));go_wp2_with(fail);have hz:=(a7.out.kept (g:=g+1+1) (.tail _ (.tail _ (.head _))))
      have h9:=lO hz (J Z m.Pc) (J Z m.Sp) (J Z m.Fp) (G A3 m.pm.length c3) (G A4 m.If.length c4) (J Z 2) (J Z m.Value);generalize (((((((w6.setCell _ _).setCell _ _).setCell _ _).setCell _ _).setCell _ _).setCell _ _).setCell _ _)=Q9 at h9 |-;obtain⟨r0,r1,r2,r3,r4,r5,r6,_,_⟩:=zK h9.1;have hGX:=h9.2.fy (am.trans a7.out.grow) (fun b hb'=>by simp at hb';omega);exact uV
     | true=>
      have bp:=zu.1 hq;obtain⟨k,bv⟩:=RE (show 0<=m1.Sp from K9);have ax:k<1200:=K9;obtain⟨_,vo,_,_,_,_,b3,bF,_⟩:=ai.out.word ax;have HS:=fh (az.out.trans (show ((D m1).bind lf).getD { m with rc:=2 } = { m1 with rc:=1,Value:=vo } from by show (lf m1).getD _=_;unfold lf;rw[Rs hpz,xz hq (v:=vo) (by rw[bv];exact b3)];rfl));have HV:=fh b3;have HA:=fh (show (I || !fP (k:Int) 0 1199)=I from by rw[U8,oz K9 K9];rfl);clear hq b3;go_upto_region 18 with(go_at_call 132;(with_reducible refine(ai.out.at_ (a:=(k:Int))).mono ?_);rw[HA.out];rintro e w6 ⟨rfl,aw⟩);have a7:=fh aw;clear aw;clear Ay cy a4 a5 y0 y1 yf yl z0 z1 z2 z3 z4 z5 z6 zf zl a3 x0 x1 x2 x3 x4 x5 x6 xf xl u0 u1 u2 u3 u4 u5 u6 uf ul eM aa ab ac;obtain⟨Ay,cy,a4,a5,SS,y0,y1,yf,yl,eM,a3,aa,ab,ac⟩:=a7.out.all;obtain⟨z0,z1,z2,z3,z4,z5,z6,zf,zl⟩:=zK eM;obtain⟨x0,x1,x2,x3,x4,x5,x6,xf,xl⟩:=zK (a7.out.kept (g:=g+1+1+1) (.tail _ (.tail _ (.tail _ (.head _)))));obtain⟨u0,u1,u2,u3,u4,u5,u6,uf,ul⟩:=zK (a7.out.kept (g:=g+1+1) (.tail _ (.tail _ (.head _))));obtain⟨gs,vp,cs,t3,tl,tf,tv,tb,tc,bD,bE,b2⟩:=a7.out.word ax;obtain rfl:vo=vp:=by have:=HV.out.symm.trans tv;injection this
      have aR:((1200:Nat):Int)=m1.pm.length:=by rw[<-a3.len]
      have bO:(k:Int)<(m1.pm.length:Int):=by rw[<-aR];omega
      clear z3 b2;have ah:=a7.out.num (i:=6) (v:=J Z vo) (m':={ m1 with rc:=1,Value:=vo }) rfl rfl ⟨a3.len,a3.out,a3.pc,a3.sp,a3.fp,i1,bF⟩ (fun _ _=>rfl);have ae:=fh ah;clear ah;go_upto_region 19 with(fail);have ah:=ae.out;have aP:=HS.out;obtain⟨m3,bg⟩:∃ m3,({ m1 with rc:=1,Value:=vo }:fv)=m3:=⟨_,rfl⟩
      rw[bg] at ah aP;clear ae HS bg;have HS:=fh aP;generalize w6.setCell _ _=w7 at ah |-;have ae:=fh ah;clear ah aP;clear t3 tl tf tv tb tc bD bE y0 y1 yf yl z0 z1 z2 z4 z5 z6 zf zl x0 x1 x2 x3 x4 x5 x6 xf xl u0 u1 u2 u3 u4 u5 u6 uf ul a3 eM aa ab ac;obtain⟨Ay,cy,a4,a5,SS,y0,y1,yf,yl,eM,a3,aa,ab,ac⟩:=ae.out.all;obtain⟨z0,z1,z2,z3,z4,z5,z6,zf,zl⟩:=zK eM;obtain⟨x0,x1,x2,x3,x4,x5,x6,xf,xl⟩:=zK (ae.out.kept (g:=g+1+1+1) (.tail _ (.tail _ (.tail _ (.head _)))));obtain⟨u0,u1,u2,u3,u4,u5,u6,uf,ul⟩:=zK (ae.out.kept (g:=g+1+1) (.tail _ (.tail _ (.head _))));go_wp2_with(fail);have hz:=(ae.out.kept (g:=g+1+1) (.tail _ (.tail _ (.head _))))
      have h9:=lO hz (J Z m3.Pc) (J Z m3.Sp) (J Z m3.Fp) (G Ay m3.pm.length cy) (G a4 m3.If.length a5) (J Z m3.rc) (J Z m3.Value);generalize (((((((w7.setCell _ _).setCell _ _).setCell _ _).setCell _ _).setCell _ _).setCell _ _).setCell _ _)=Q9 at h9 |-;obtain⟨r0,r1,r2,r3,r4,r5,r6,_,_⟩:=zK h9.1;have hGX:=h9.2.fy (am.trans ae.out.grow) (fun b hb'=>by simp at hb';omega);have aN:=aa.fJ h9.2 (fun b hb' hm=>by simp at hm;exact ac _ (.tail _ (.tail _ (.head _))) (hm ▸ hb'));have bx:=am.size;rw[HS.out];exact Rj (v:=.agg #[J Z m3.Pc,J Z m3.Sp,J Z m3.Fp,G Ay m3.pm.length cy,G a4 m3.If.length a5,J Z m3.rc,J Z m3.Value]) (by simp[Rv,results80,go_sem,r0,r1,r2,r3,r4,r5,r6]) rfl ⟨Ay,cy,a4,a5,rfl,hGX,a3,.inl (aN.fresh (fun b hb'=>by have h1:=ab b hb';omega))⟩
    ·have HS:=fh (az.out.trans (show ((D m1).bind lf).getD { m with rc:=2 }=m1 from by show (lf m1).getD _=_;unfold lf;rw[Ro hpz];rfl))
     clear Ay cy a4 a5 y0 y1 yf yl z0 z1 z2 z3 z4 z5 z6 zf zl a3 x0 x1 x2 x3 x4 x5 x6 xf xl u0 u1 u2 u3 u4 u5 u6 uf ul;obtain⟨Ay,cy,a4,a5,SS,y0,y1,yf,yl,eM,a3,aa,ab,ac⟩:=ad.out.all;obtain⟨z0,z1,z2,z3,z4,z5,z6,zf,zl⟩:=zK eM;obtain⟨x0,x1,x2,x3,x4,x5,x6,xf,xl⟩:=zK (ad.out.kept (g:=g+1+1+1) (.tail _ (.tail _ (.tail _ (.head _)))));obtain⟨u0,u1,u2,u3,u4,u5,u6,uf,ul⟩:=zK (ad.out.kept (g:=g+1+1) (.tail _ (.tail _ (.head _))));go_wp2_with(fail);have hz:=(ad.out.kept (g:=g+1+1) (.tail _ (.tail _ (.head _))))
     have h9:=lO hz (J Z m1.Pc) (J Z m1.Sp) (J Z m1.Fp) (G Ay m1.pm.length cy) (G a4 m1.If.length a5) (J Z m1.rc) (J Z m1.Value);generalize (((((((w4.setCell _ _).setCell _ _).setCell _ _).setCell _ _).setCell _ _).setCell _ _).setCell _ _)=Q9 at h9 |-;obtain⟨r0,r1,r2,r3,r4,r5,r6,_,_⟩:=zK h9.1;have hGX:=h9.2.fy (am.trans ad.out.grow) (fun b hb'=>by simp at hb';omega);have aN:=aa.fJ h9.2 (fun b hb' hm=>by simp at hm;exact ac _ (.tail _ (.tail _ (.head _))) (hm ▸ hb'));have bx:=am.size;rw[HS.out];exact Rj (v:=.agg #[J Z m1.Pc,J Z m1.Sp,J Z m1.Fp,G Ay m1.pm.length cy,G a4 m1.If.length a5,J Z m1.rc,J Z m1.Value]) (by simp[Rv,results80,go_sem,r0,r1,r2,r3,r4,r5,r6]) rfl ⟨Ay,cy,a4,a5,rfl,hGX,a3,.inl (aN.fresh (fun b hb'=>by have h1:=ab b hb';omega))⟩
theorem ie.make (hrow:row=#[J Z m.Pc,J Z m.Sp,J Z m.Fp,G A m.pm.length c,G Ao m.If.length co,J Z m.rc,J Z m.Value,H I])
  (hF:fU zG W1 W2 [J Z m.Pc,J Z m.Sp,J Z m.Fp,G A m.pm.length c,G Ao m.If.length co,J Z m.rc,J Z m.Value] m)
  (hg2:fu W1 W2) (hB:∀ p∈B,W1.heap[p.1]?=D p.2) (hk:kX Ra m) :
  ie B W1 (W2.alloc (F row 140)) Ra W2.heap.size I m:=by
 obtain⟨S9,hO,hN,hL⟩:=hF;have a5:=Ty.iY _ hO;obtain⟨A',c',S,a6,a7,So,a0,rfl,_,_,_,h3,h4,_,_⟩:=yp hO;injection a0 with _ a0
 injection a0 with _ a0
 injection a0 with _ a0
 injection a0 with e3 a0
 injection a0 with e4 _
 injection e3 with a1 a2 a3
 injection e4 with b1 b2 b3
 subst a1 a3 b1 b3;rw[RM] at hN;obtain⟨n1,n2,n3⟩:=hN;have a4:fu W2 (W2.alloc (F row 140)):=(fu.refl _).alloc _;have a8:=hg2.size;refine⟨A,c,S,Ao,co,So,?_,Has.fy ⟨h3,n1⟩ a4,Has.fy ⟨h4,n2⟩ a4,fun b hb hm=>n3 b hb b hm rfl,⟨fun hm=>?_,fun hm=>?_⟩,hk,hg2.trans a4,K9,fun b hb=>?_,fun b hb=>?_,fun p hp=>?_⟩
 ·rw[<-hrow]
  exact Re W2 _
 ·have:=a5 _ (RH _ hm);omega
 ·have:=a5 _ (RK _ hm);omega
 ·have:=hL b (RH _ hb);omega
 ·have:=hL b (RK _ hb);omega
 ·have h1:=hB p hp
  have hl:=(blt h1)
  refine⟨zj (zj h1 hg2) a4,K9,fun hm=>?_,fun hm=>?_⟩
  ·have:=hL _ (RH _ hm);omega
  ·have:=hL _ (RK _ hm);omega
theorem ie.all (h:ie B Y W Ra gc bad m):∃ A c Ao co S,
  W.heap[gc]?=D (F #[J Z m.Pc,J Z m.Sp,J Z m.Fp,G A m.pm.length c,G Ao m.If.length co,J Z m.rc,J Z m.Value,H bad] 140 (0,0))/\kX Ra m/\
  Has zG W [J Z m.Pc,J Z m.Sp,J Z m.Fp,G A m.pm.length c,G Ao m.If.length co,J Z m.rc,J Z m.Value] m S/\(∀ b∈S,Y.heap.size<=b)/\∀ p∈B,p.1∉S:=by
 obtain⟨A,c,S,Ao,co,So,h⟩:=h;refine⟨A,c,Ao,co,S++So,h.WA,h.ok,⟨xX h.ok.pc h.ok.sp h.ok.fp h.stack.1 h.out.1 h.ok.st h.ok.va,RM.2 ⟨h.stack.2,h.out.2,fun a ha b hb he=>h.jj a ha (he ▸ hb)⟩⟩,fun b hb=>?_,fun p hp hm=>?_⟩
 ·rcases Rr.1 hb with hb | hb
  ·exact h.ls b hb
  ·exact h.lo b hb
 ·obtain⟨_,_,h4,h5⟩:=h.kb p hp
  rcases Rr.1 hm with hb | hb
  ·exact h4 hb
  ·exact h5 hb
theorem Cj {v:Value} (hF:fU zG w W [J Z m.Pc,J Z m.Sp,J Z m.Fp,G A m.pm.length c,G Ao m.If.length co,v,J Z m.Value] m) :
  fU zG w W [J Z m.Pc,J Z m.Sp,J Z m.Fp,G A m.pm.length c,G Ao m.If.length co,J Z 2,J Z m.Value] { m with rc:=2 }:=by
 obtain⟨S9,hO,hN,hL⟩:=hF;obtain⟨A',c',S,a4,a5,So,a0,rfl,p0,p1,p2,h3,h4,_,p6⟩:=yp hO;injection a0 with _ a0
 injection a0 with _ a0
 injection a0 with _ a0
 injection a0 with e3 a0
 injection a0 with e4 _
 injection e3 with a1 a2 a3
 injection e4 with b1 b2 b3
 subst a1 a3 b1 b3;have i2:fE 2:=⟨qo,qo⟩
 exact⟨_,xX (x:={ m with rc:=2 }) p0 p1 p2 h3 h4 i2 p6,hN,hL⟩
theorem Ft (s:gk)(m:fv):ji s m=if (lD s m.Pc).ok=M then (((zA s.ii { m with Pc:=m.Pc+((lD s m.Pc).n:Int) } (lD s m.Pc).code (lD s m.Pc).arg).bind lf).getD { m with rc:=2 }) else { m with rc:=2 }:=by
 unfold ji lD;simp only;by_cases h:(loc s m.Pc).1<0
 ·rw[Rs h,Rs h]
  rfl
 ·rw[Ro h,Ro h]
  cases s.fo[(loc s m.Pc).1.toNat]? with
  | none=>rfl
  | some i=>rfl
theorem MN {a:Int} (hst:∀ x∈s.fo,x.Code.size<=1099511627776)(hbs:∀ b∈s.ft,fP b 1 1000000=M)(h:(lD s a).ok=M) :
  (1<=a/\a<=1099512627776)/\(lD s a).n<=5/\(0<=(lD s a).code/\(lD s a).code<=17)/\BD (lD s a).code (lD s a).arg/\fE (lD s a).arg:=by
 rcases CW s.fo s.ft a 0 with h1 | ⟨j,y,b,hj,hb,h1,a0,a1⟩
 ·have h2:lD s a=⟨0,0,0,I⟩:=by unfold lD loc;rw[h1];rfl
  rw[h2] at h;cases h
 ·rw[RF] at h1
  have h2:lD s a=je y.Code (a-b):=by
   unfold lD loc;rw[h1];simp only;rw[Ro K9,Ry,hj]
  rw[h2] at h |-;have a3:=hst y (Rt hj);have a2:=zu.1 (hbs b (Rt hb));have ho:=wv (s:=y.Code) (a:=a-b) rfl h;have ha:=AG (s:=y.Code) (a:=a-b) rfl;exact⟨⟨K9,K9⟩,K9,⟨ho.2.2.2.2.1,ho.2.2.2.2.2⟩,G6 rfl,⟨K9,K9⟩⟩
theorem PC (w:U)(ca cb cc:Array Value)(ta tb tc:R5):(((w.alloc (F ca ta)).alloc (F cb tb)).alloc (F cc tc)).heap[w.heap.size]?=D (F ca ta (0,0))/\(((w.alloc (F ca ta)).alloc (F cb tb)).alloc (F cc tc)).heap[w.heap.size+1]?=D (F cb tb (0,0))/\
  (((w.alloc (F ca ta)).alloc (F cb tb)).alloc (F cc tc)).heap[w.heap.size+1+1]?=D (F cc tc (0,0)):=by
 refine⟨zj (Re w _) gF,?_,?_⟩
 ·have h:=Re (w.alloc (F ca ta)) (F cb tb)
  rw[Rz] at h;exact zj h gF
 ·have h:=Re ((w.alloc (F ca ta)).alloc (F cb tb)) (F cc tc)
  rw[Rz,Rz] at h;exact h
theorem Wk {g:Prop} (f:g:=by
  obtain⟨v0,v1,v2,v3,v4,v5,v6,vf,vl⟩:=zK eM
  obtain⟨u0,u1,u2,u3,u4,u5,u6,uf,ul⟩:=zK hz
  go_wp2_with(fail)
  have h9:=lO hz (J Z m.Pc) (J Z m.Sp) (J Z m.Fp) (G C0 m.pm.length e0) (G C1 m.If.length e1) (J Z 2) (J Z m.Value)
  generalize (((((((w9.setCell _ _).setCell _ _).setCell _ _).setCell _ _).setCell _ _).setCell _ _).setCell _ _)=Q9 at h9 |-
  obtain⟨r0,r1,r2,r3,r4,r5,r6,_,_⟩:=zK h9.1
  have hGX:=h9.2.fy hGw (fun b hb'=>by simp at hb';omega)
  have hF9:=hHs.fJ h9.2 (fun b hb' hm=>by simp at hm;have h1:=hlS _ hb';omega)
  rw[HS.out]
  exact Rj (v:=.agg #[J Z m.Pc,J Z m.Sp,J Z m.Fp,G C0 m.pm.length e0,G C1 m.If.length e1,J Z 2,J Z m.Value]) (by simp[Rv,results44,go_sem,r0,r1,r2,r3,r4,r5,r6]) rfl ⟨⟨C0,e0,C1,e1,rfl,hF9.fresh (fun b hb'=>by have h1:=hlS b hb';omega),hGX⟩,HKS.out⟩):g:=f
theorem zxs (h0:(iG.sl 103).R w w.heap.size [G A0 s.fo.length c0] s.fo)(h1:(zr.sl 3).R w w.heap.size [G A1 s.ft.length c1] s.ft)
  (h2:(zr.sl 3).R w w.heap.size [G A2 s.ii.length c2] s.ii) (h3:(zr.sl 3).R w w.heap.size [G A3 m.pm.length c3] m.pm) (h4:(zr.sl 3).R w w.heap.size [G A4 m.If.length c4] m.If)
  (hl:s.fo.length=s.ft.length) (hst:∀ x∈s.fo,x.Code.size<=1099511627776) (hbs:∀ b∈s.ft,fP b 1 1000000=M) (hk:kX Ra m) (hN:Ra<=1099511620000) (hm0:m.rc=0) :
  RD prog 44 #[.agg #[G A0 s.fo.length c0,G A1 s.ft.length c1,G A2 s.ii.length c2],.agg #[J Z m.Pc,J Z m.Sp,J Z m.Fp,G A3 m.pm.length c3,G A4 m.If.length c4,J Z m.rc,J Z m.Value]] w (fun r w'=>Cq (ji s m) w r w'/\kX (Ra+1) (ji s m)):=by
 obtain⟨_,_,ba,be,bg⟩:=kJ h2;injection ba with e1 e2 e3
 subst e1 e3;clear e2;have aj:fu w (((w.alloc (F #[G A0 s.fo.length c0,G A1 s.ft.length c1,G A2 s.ii.length c2] 28)).alloc (F #[J Z m.Pc,J Z m.Sp,J Z m.Fp,G A3 m.pm.length c3,G A4 m.If.length c4,J Z 0,J Z m.Value] 41)).alloc (F #[J Z 0,J Z 0,J Z 0,G C 0 0,G C 0 0,J Z 0,J Z 0] 41)):=gG;obtain⟨ax,ay,aK⟩:=PC w #[G A0 s.fo.length c0,G A1 s.ft.length c1,G A2 s.ii.length c2] #[J Z m.Pc,J Z m.Sp,J Z m.Fp,G A3 m.pm.length c3,G A4 m.If.length c4,J Z 0,J Z m.Value] #[J Z 0,J Z 0,J Z 0,G C 0 0,G C 0 0,J Z 0,J Z 0] 28 41 41;have k0:=Ty.up _ h0 aj;have k1:=Ty.up _ h1 aj;have k2:=Ty.up _ h2 aj;have k3:=Ty.up _ h3 aj;have k4:=Ty.up _ h4 aj;have b4:=fh hl;have b5:=fh hst;have b3:=fh hbs;have HKS:=fh hk.stop;have HM:=fh hk;have aB:=fh hm0;have aq:=hk.pc;have i1:fE 1:=⟨qo,qo⟩
 have ak:jV m<=1099511627776:=by
  have h1:=hk.len;have h2:=hk.out;unfold jV;omega
 have aC:=fh ak;obtain⟨r,hr⟩:∃ r,lD s m.Pc=r:=⟨_,rfl⟩
 have am:=Ft s m;have ap:=MN (a:=m.Pc) hst hbs;rw[hr] at am ap;have HR:=fh hr;obtain⟨bd,aO⟩:∃ q,r.ok=q:=⟨_,rfl⟩
 rw[aO] at am ap;have a4:=zdn (x:=m) aq hk.sp hk.fp k3 k4 hk.st hk.va ak;rw[hm0] at a4;have ag:=fh a4;clear hl hst hbs hk ak hr a4;obtain⟨g,hg⟩:∃ g,w.heap.size=g:=⟨_,rfl⟩
 go_enter func44,ntmps44;go_upto_region 1 with(fail);rw[hg] at ax ay aK;clear hm0;generalize (((w.alloc _).alloc _).alloc _)=W1 at aj ax ay aK k0 k1 k2 k3 k4 ag |-;have ab:=aj;have b0:=ab.size;clear h0 h1 h2 h3 h4 aj;obtain⟨a0,a1,a2,af,al⟩:=iS ax;obtain⟨aD,aE,aF,aG,aH,aI,aJ,bf,bl⟩:=zK ay;go_upto_region 2 with(go_at_call 40;(with_reducible refine ag.out.mono ?_);rintro e w3 ⟨B0,d0,B1,d1,rfl,ai,aP,d3,rfl⟩)
 have hC:=ie.make (B:=[(g,F #[G A0 s.fo.length c0,G A1 s.ft.length c1,G A2 s.ii.length c2] 28 (0,0)),(g+1,F #[J Z m.Pc,J Z m.Sp,J Z m.Fp,G A3 m.pm.length c3,G A4 m.If.length c4,J Z 0,J Z m.Value] 41 (0,0)),(g+1+1,F #[J Z 0,J Z 0,J Z 0,G C 0 0,G C 0 0,J Z 0,J Z 0] 41 (0,0))]) (Ra:=Ra) (row:=#[J Z m.Pc,J Z m.Sp,J Z m.Fp,G B0 m.pm.length d0,G B1 m.If.length d1,J Z m.rc,J Z m.Value,H I]) rfl ai (fu.of W1 aP d3) (by
  intro p hp;simp only[RO,Sq,Tm] at hp;rcases hp with rfl | rfl | rfl
  ·exact ax
  ·exact ay
  ·exact aK) HM.out
 rw[kH] at hC;obtain⟨gc,aV⟩:∃ gc,W1.heap.size+aP.size=gc:=⟨_,rfl⟩
 rw[aV] at hC |-;generalize (fy W1 aP d3).alloc _=wc at hC |-;have HC:=fh hC;clear hC aV ai aD aE aF aG aH aI aJ bf bl a0 a1 a2 af al ag;obtain⟨a0,a1,a2,af,al⟩:=iS (HC.out.kept (g:=g) (.head _));obtain⟨aD,aE,aF,aG,aH,aI,aJ,bf,bl⟩:=zK (HC.out.kept (g:=g+1) (.tail _ (.head _)));have f0:=Ty.up _ k0 HC.out.grow;have f1:=Ty.up _ k1 HC.out.grow;go_upto_region 3 with(go_at_call 84;(with_reducible refine(zv8 (s:=s) f0 f1 b4.out b5.out b3.out aq).mono ?_);rw[HR.out];rintro e w4 ⟨rfl,aQ,d4,rfl⟩);have an:=(HC.out.fy (fu.of wc aQ d4)).jb (cs:=#[J Z r.code,J Z r.arg]) (t:=142);rw[kH] at an;obtain⟨g5,aU⟩:∃ g5,wc.heap.size+aQ.size=g5:=⟨_,rfl⟩
 rw[aU] at an |-;generalize (fy wc aQ d4).alloc _=w5 at an |-;have aa:=fh an;clear an aU HC a0 a1 a2 af al aD aE aF aG aH aI aJ bf bl f0 f1;cases bd with
 | false=>
  have HS:=fh (am.trans (Ro II));clear am ap;have ar:=Ty.up _ k3 aa.out.grow;have au:=Ty.up _ k4 aa.out.grow;have a4:=zdn (x:=m) aq HM.out.sp HM.out.fp ar au HM.out.st HM.out.va aC.out;rw[aB.out] at a4;have ag:=fh a4;clear a4;obtain⟨x0,x1,x2,x3,x4,x5,x6,xf,xl⟩:=zK (aa.out.kept (g:=g+1) (.tail _ (.tail _ (.head _))));go_upto_region 8 with(go_at_call 40;(with_reducible refine ag.out.mono ?_);rintro e w8 ⟨C0,e0,C1,e1,rfl,ai,a5,d8,rfl⟩);have ae:=Cj ai;have ad:fu w5 ((fy w5 a5 d8).alloc (F #[J Z m.Pc,J Z m.Sp,J Z m.Fp,G C0 m.pm.length e0,G C1 m.If.length e1,J Z 2,J Z m.Value] 41)):=gG;have eM:=Re (fy w5 a5 d8) (F #[J Z m.Pc,J Z m.Sp,J Z m.Fp,G C0 m.pm.length e0,G C1 m.If.length e1,J Z 2,J Z m.Value] 41);have hz:=zj (aa.out.kept (g:=g+1+1) (.tail _ (.tail _ (.tail _ (.head _))))) ad;obtain⟨SS,ac,hlS⟩:=fU.has ae;have hHs:=ac.fy (W':=(fy w5 a5 d8).alloc (F #[J Z m.Pc,J Z m.Sp,J Z m.Fp,G C0 m.pm.length e0,G C1 m.If.length e1,J Z 2,J Z m.Value] 41)) gF;have hGw:=(ab.trans aa.out.grow).trans ad;have aW:=(R9.1 (aa.out.kept (g:=g+1+1) (.tail _ (.tail _ (.tail _ (.head _)))))).1;have aX:=(ab.trans aa.out.grow).size;rw[kH] at eM;generalize (fy w5 a5 d8).alloc _=w9 at ad eM hz hHs hGw |-;exact Wk
 | true=>
  have HQ:=fh (am.trans (Rs rfl));obtain⟨bh,b8,b7,aT,b6⟩:=ap rfl;have b2:=fh aT;clear am ap aT;obtain⟨q0,q1,q2,qf,ql⟩:=iS (aa.out.kept (g:=g) (.tail _ (.head _)));obtain⟨o0,o1,bb,bc,ol⟩:=jT (aa.out.kept (g:=g5) (.head _));go_upto_region 5 with(go_at_call 85;(with_reducible refine(Ns (es:=s.ii) aa.out k2 K9 K9 ⟨K9,K9⟩ b8 b7 b2.out b6).mono ?_);rintro e w6 ⟨rfl,b1,m1,aR,aZ⟩);have aS:ji s m=((Ww b1 m1).bind lf).getD { m with rc:=2 }:=by rw[HQ.out,aZ];rfl
  have aw:=fh aS;have a9:=fh aR;clear aS aZ q0 q1 q2 qf ql o0 o1 bb bc ol HQ aR aa;obtain⟨Ay,cy,a6,a8,SS,eM,a3,hHs,hlS,ah⟩:=a9.out.all;obtain⟨z0,z1,z2,z3,z4,z5,z6,z7,zf,zl⟩:=tF eM;obtain⟨u0,u1,u2,u3,u4,u5,u6,uf,ul⟩:=zK (a9.out.kept (g:=g+1+1) (.tail _ (.tail _ (.tail _ (.head _)))));cases b1 with
  | true=>
   have HS:=fh (aw.out.trans rfl);have ar:=Ty.up _ k3 a9.out.grow;have au:=Ty.up _ k4 a9.out.grow;have a4:=zdn (x:=m) aq HM.out.sp HM.out.fp ar au HM.out.st HM.out.va aC.out;rw[aB.out] at a4;have ag:=fh a4;clear a4;obtain⟨x0,x1,x2,x3,x4,x5,x6,xf,xl⟩:=zK (a9.out.kept (g:=g+1) (.tail _ (.tail _ (.head _))));go_upto_region 8 with(go_at_call 40;(with_reducible refine ag.out.mono ?_);rintro e w8 ⟨C0,e0,C1,e1,rfl,ai,a5,d8,rfl⟩);have ae:=Cj ai;have ad:fu w6 ((fy w6 a5 d8).alloc (F #[J Z m.Pc,J Z m.Sp,J Z m.Fp,G C0 m.pm.length e0,G C1 m.If.length e1,J Z 2,J Z m.Value] 41)):=gG;have eM:=Re (fy w6 a5 d8) (F #[J Z m.Pc,J Z m.Sp,J Z m.Fp,G C0 m.pm.length e0,G C1 m.If.length e1,J Z 2,J Z m.Value] 41);have hz:=zj (a9.out.kept (g:=g+1+1) (.tail _ (.tail _ (.tail _ (.head _))))) ad;obtain⟨SS,ac,hlS⟩:=fU.has ae;have hHs:=ac.fy (W':=(fy w6 a5 d8).alloc (F #[J Z m.Pc,J Z m.Sp,J Z m.Fp,G C0 m.pm.length e0,G C1 m.If.length e1,J Z 2,J Z m.Value] 41)) gF;have hGw:=(ab.trans a9.out.grow).trans ad;have aW:=(R9.1 (a9.out.kept (g:=g+1+1) (.tail _ (.tail _ (.tail _ (.head _)))))).1;have aX:=(ab.trans a9.out.grow).size;rw[kH] at eM;generalize (fy w6 a5 d8).alloc _=w9 at ad eM hz hHs hGw |-;exact Wk
  | false=>
   by_cases hpz:m1.Pc=0
   ·go_upto_region 11 with(go_at_call 86;(with_reducible refine(Jb a9.out).mono ?_);rintro e w7 ⟨v1,b9,rfl,ao,aN⟩)
    obtain⟨q,hq⟩:∃ q,fP m1.Sp 0 1199=q:=⟨_,rfl⟩
    rw[hq] at ao;clear Ay cy a6 a8 SS eM a3 hHs hlS ah z0 z1 z2 z3 z4 z5 z6 z7 zf zl u0 u1 u2 u3 u4 u5 u6 uf ul;cases q with
    | false=>
     have HS:=fh (aw.out.trans (show ((D m1).bind lf).getD { m with rc:=2 } = { m with rc:=2 } from by show (lf m1).getD _=_;unfold lf;rw[Rs hpz,sG hq];rfl));have a7:Hid (ie _ W1 w7 (Ra+1) gc M m1):=fh ao;clear hq ao aN;obtain⟨Ay,cy,a6,a8,SS,eM,a3,hHs,hlS,ah⟩:=a7.out.all;obtain⟨z0,z1,z2,z3,z4,z5,z6,z7,zf,zl⟩:=tF eM;obtain⟨u0,u1,u2,u3,u4,u5,u6,uf,ul⟩:=zK (a7.out.kept (g:=g+1+1) (.tail _ (.tail _ (.tail _ (.head _)))));have ar:=Ty.up _ k3 a7.out.grow;have au:=Ty.up _ k4 a7.out.grow;have a4:=zdn (x:=m) aq HM.out.sp HM.out.fp ar au HM.out.st HM.out.va aC.out;rw[aB.out] at a4;have ag:=fh a4;clear a4;obtain⟨x0,x1,x2,x3,x4,x5,x6,xf,xl⟩:=zK (a7.out.kept (g:=g+1) (.tail _ (.tail _ (.head _))));go_upto_region 14 with(go_at_call 40;(with_reducible refine ag.out.mono ?_);rintro e w8 ⟨C0,e0,C1,e1,rfl,ai,a5,d8,rfl⟩);have ae:=Cj ai;have ad:fu w7 ((fy w7 a5 d8).alloc (F #[J Z m.Pc,J Z m.Sp,J Z m.Fp,G C0 m.pm.length e0,G C1 m.If.length e1,J Z 2,J Z m.Value] 41)):=gG;have eM:=Re (fy w7 a5 d8) (F #[J Z m.Pc,J Z m.Sp,J Z m.Fp,G C0 m.pm.length e0,G C1 m.If.length e1,J Z 2,J Z m.Value] 41);have hz:=zj (a7.out.kept (g:=g+1+1) (.tail _ (.tail _ (.tail _ (.head _))))) ad;obtain⟨SS,ac,hlS⟩:=fU.has ae;have hHs:=ac.fy (W':=(fy w7 a5 d8).alloc (F #[J Z m.Pc,J Z m.Sp,J Z m.Fp,G C0 m.pm.length e0,G C1 m.If.length e1,J Z 2,J Z m.Value] 41)) gF;have hGw:=(ab.trans a7.out.grow).trans ad;have aW:=(R9.1 (a7.out.kept (g:=g+1+1) (.tail _ (.tail _ (.tail _ (.head _)))))).1;have aX:=(ab.trans a7.out.grow).size;rw[kH] at eM;generalize (fy w7 a5 d8).alloc _=w9 at ad eM hz hHs hGw |-;exact Wk
    | true=>
     have HS:=fh (aw.out.trans (show ((D m1).bind lf).getD { m with rc:=2 } = { m1 with rc:=1,Value:=v1 } from by show (lf m1).getD _=_;unfold lf;rw[Rs hpz,xz hq (v:=v1) (aN hq)];rfl));have a7:Hid (ie _ W1 w7 (Ra+1) gc I m1):=fh ao;clear hq ao aN;obtain⟨Ay,cy,a6,a8,SS,eM,a3,hHs,hlS,ah⟩:=a7.out.all;obtain⟨z0,z1,z2,z3,z4,z5,z6,z7,zf,zl⟩:=tF eM;obtain⟨u0,u1,u2,u3,u4,u5,u6,uf,ul⟩:=zK (a7.out.kept (g:=g+1+1) (.tail _ (.tail _ (.tail _ (.head _)))));go_upto_region 16 with(fail);have aL:=a7.out.num (i:=5) (v:=J Z 1) (bad':=I) (m':={ m1 with rc:=1 }) rfl rfl ⟨a3.len,a3.out,a3.pc,a3.sp,a3.fp,i1,a3.va⟩ (fun _ _=>rfl);generalize w7.setCell _ _=w8 at aL |-;have aA:=fh aL;clear aL;clear Ay cy a6 a8 SS eM a3 hHs hlS ah z0 z1 z2 z3 z4 z5 z6 z7 zf zl u0 u1 u2 u3 u4 u5 u6 uf ul;obtain⟨Ay,cy,a6,a8,SS,eM,a3,hHs,hlS,ah⟩:=aA.out.all;obtain⟨z0,z1,z2,z3,z4,z5,z6,z7,zf,zl⟩:=tF eM;obtain⟨u0,u1,u2,u3,u4,u5,u6,uf,ul⟩:=zK (aA.out.kept (g:=g+1+1) (.tail _ (.tail _ (.tail _ (.head _)))));go_upto_region 17 with(fail);have az:=aA.out.num (i:=6) (v:=J Z v1) (bad':=I) (m':={ m1 with rc:=1,Value:=v1 }) rfl rfl ⟨a3.len,a3.out,a3.pc,a3.sp,a3.fp,a3.st,b9⟩ (fun _ _=>rfl);have aM:=HS.out;obtain⟨m3,aY⟩:∃ m3,({ m1 with rc:=1,Value:=v1 }:fv)=m3:=⟨_,rfl⟩
     rw[aY] at az aM;clear HS aY;have HS:=fh aM;generalize w8.setCell _ _=w9 at az |-;have av:=fh az;clear az aM;clear Ay cy a6 a8 SS eM a3 hHs hlS ah z0 z1 z2 z3 z4 z5 z6 z7 zf zl u0 u1 u2 u3 u4 u5 u6 uf ul;obtain⟨Ay,cy,a6,a8,SS,eM,a3,hHs,hlS,ah⟩:=av.out.all;obtain⟨z0,z1,z2,z3,z4,z5,z6,z7,zf,zl⟩:=tF eM;obtain⟨u0,u1,u2,u3,u4,u5,u6,uf,ul⟩:=zK (av.out.kept (g:=g+1+1) (.tail _ (.tail _ (.tail _ (.head _)))));go_wp2_with(fail);have b0:=ab.size;have h9:=lO (av.out.kept (g:=g+1+1) (.tail _ (.tail _ (.tail _ (.head _))))) (J Z m3.Pc) (J Z m3.Sp) (J Z m3.Fp) (G Ay m3.pm.length cy) (G a6 m3.If.length a8) (J Z m3.rc) (J Z m3.Value);generalize (((((((w9.setCell _ _).setCell _ _).setCell _ _).setCell _ _).setCell _ _).setCell _ _).setCell _ _)=Q9 at h9 |-;obtain⟨r0,r1,r2,r3,r4,r5,r6,_,_⟩:=zK h9.1;have hGX:=h9.2.fy (ab.trans av.out.grow) (fun b hb'=>by simp at hb';omega);have hF9:=hHs.fJ h9.2 (fun b hb' hm=>by simp at hm;exact ah _ (.tail _ (.tail _ (.tail _ (.head _)))) (hm ▸ hb'));rw[HS.out];exact Rj (v:=.agg #[J Z m3.Pc,J Z m3.Sp,J Z m3.Fp,G Ay m3.pm.length cy,G a6 m3.If.length a8,J Z m3.rc,J Z m3.Value]) (by simp[Rv,results44,go_sem,r0,r1,r2,r3,r4,r5,r6]) rfl ⟨⟨Ay,cy,a6,a8,rfl,hF9.fresh (fun b hb'=>by have h1:=hlS b hb';omega),hGX⟩,a3⟩
   ·have HS:=fh (aw.out.trans (show ((D m1).bind lf).getD { m with rc:=2 }=m1 from by show (lf m1).getD _=_;unfold lf;rw[Ro hpz];rfl))
    go_wp2_with(fail);have b0:=ab.size;have h9:=lO (a9.out.kept (g:=g+1+1) (.tail _ (.tail _ (.tail _ (.head _))))) (J Z m1.Pc) (J Z m1.Sp) (J Z m1.Fp) (G Ay m1.pm.length cy) (G a6 m1.If.length a8) (J Z m1.rc) (J Z m1.Value);generalize (((((((w6.setCell _ _).setCell _ _).setCell _ _).setCell _ _).setCell _ _).setCell _ _).setCell _ _)=Q9 at h9 |-;obtain⟨r0,r1,r2,r3,r4,r5,r6,_,_⟩:=zK h9.1;have hGX:=h9.2.fy (ab.trans a9.out.grow) (fun b hb'=>by simp at hb';omega);have hF9:=hHs.fJ h9.2 (fun b hb' hm=>by simp at hm;exact ah _ (.tail _ (.tail _ (.tail _ (.head _)))) (hm ▸ hb'));rw[HS.out];exact Rj (v:=.agg #[J Z m1.Pc,J Z m1.Sp,J Z m1.Fp,G Ay m1.pm.length cy,G a6 m1.If.length a8,J Z m1.rc,J Z m1.Value]) (by simp[Rv,results44,go_sem,r0,r1,r2,r3,r4,r5,r6]) rfl ⟨⟨Ay,cy,a6,a8,rfl,hF9.fresh (fun b hb'=>by have h1:=hlS b hb';omega),hGX⟩,a3⟩
end Go.Proofs.YthgbglbaemelhaaGreat
