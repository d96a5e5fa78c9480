/-
  PART.
-/
import Derived.Test.YthgbglbaemelhaaGreatM41LawSlices
set_option linter.unusedVariables false
set_option linter.unusedSimpArgs false
set_option maxRecDepth 100000
set_option maxHeartbeats 8000000
namespace Go.Proofs.YthgbglbaemelhaaGreat
open Value renaming slice->G,int->J,bool->H
open IntKind renaming i64->C
open Option renaming none->D,some->Z
open Obj renaming cells->F
open Bool renaming false->I,true->M
open Go renaming World->U,results->Rd,Calls->Rh,Addr->Ri,yielded->Su
open World renaming cell?->QL,frozen?->Rb
open _root_.Int renaming toNat_natCast->Ra
open RowKit renaming wrap64->Sf
open Region renaming wanted->Rx,ready->RL,noSelect->Tn,free->Ui
open Tryz
open Go.RowKit
variable {B:Q (Nat × Obj)}{QK gc gm:Nat}{W Y w:U}{bad:Bool}{m:fy}{s:gv}
theorem gX.make {W1 W2:U} {m':fy} {A:X Ri} {c:Nat} {Ao:X Ri} {co:Nat} {row:Array Value} (hrow:row=#[J C m'.Pc,J C m'.Sp,J C m'.Fp,G A m.Stack.length c,G Ao m.Out.length co,J C m'.State,J C m'.Value])
  (hF:fU jX W1 W2 [J C m.Pc,J C m.Sp,J C m.Fp,G A m.Stack.length c,G Ao m.Out.length co,J C m.State,J C m.Value] m)
  (hg1:ft w W1) (hg2:ft W1 W2) (hB:∀ p∈B,W1.heap[p.1]?=Z p.2) (hk:nB QK m') (hs:m'.Stack=m.Stack) (ho:m'.Out=m.Out) :
  gX B w ((W2.alloc (F row 41)).alloc (F #[.pointer (Z ⟨W2.heap.size,0,D⟩),H I] 191)) QK (W2.heap.size+1) W2.heap.size I m':=by
 obtain⟨S9,hO,hN,hL⟩:=hF;have a5:=Ty.ja _ hO;obtain⟨A',c',S,a6,a7,So,a0,rfl,_,_,_,h3,h4,_,_⟩:=BZ hO;injection a0 with _ a0
 injection a0 with _ a0
 injection a0 with _ a0
 injection a0 with e3 a0
 injection a0 with e4 _
 injection e3 with a1 a2 a3
 injection e4 with b1 b2 b3
 subst a1 a3 b1 b3;rw[Rs] at hN;obtain⟨n1,n2,n3⟩:=hN;have a4:ft W2 ((W2.alloc (F row 41)).alloc (F #[.pointer (Z ⟨W2.heap.size,0,D⟩),H I] 191)):=((ft.refl _).alloc _).alloc _;have a8:=hg1.size;have a9:=hg2.size;refine⟨A,c,S,Ao,co,So,⟨?_,?_,?_,?_,fun b hb hm=>n3 b hb b hm rfl,by omega,?_⟩,hk,(hg1.trans hg2).trans a4,by omega,by omega,fun b hb=>?_,fun b hb=>?_,fun p hp=>?_⟩
 ·have h:=QO (W2.alloc (F row 41)) (F #[.pointer (Z ⟨W2.heap.size,0,D⟩),H I] 191)
  rw[Rf] at h;exact h
 ·rw[hs,ho,<-hrow]
  exact zj (QO W2 _) ((ft.refl _).alloc _)
 ·rw[hs]
  exact Has.fx ⟨h3,n1⟩ a4
 ·rw[ho]
  exact Has.fx ⟨h4,n2⟩ a4
 ·refine⟨fun hm=>?_,fun hm=>?_,fun hm=>?_,fun hm=>?_⟩
  ·have:=a5 _ (Rm _ hm);omega
  ·have:=a5 _ (Rr _ hm);omega
  ·have:=a5 _ (Rm _ hm);omega
  ·have:=a5 _ (Rr _ hm);omega
 ·have:=hL b (Rm _ hb);omega
 ·have:=hL b (Rr _ hb);omega
 ·have h1:=hB p hp
  have hl:=(blt h1)
  refine⟨zj (zj h1 hg2) a4,by omega,by omega,fun hm=>?_,fun hm=>?_⟩
  ·have:=hL _ (Rm _ hm);omega
  ·have:=hL _ (Rr _ hm);omega
theorem gX.fresh (h:gX B Y W QK gc gm bad m):∃ A c Ao co,W.heap[gm]?=Z (F #[J C m.Pc,J C m.Sp,J C m.Fp,G A m.Stack.length c,G Ao m.Out.length co,J C m.State,J C m.Value] 41 (0,0))/\
  ∃ S,Has jX W [J C m.Pc,J C m.Sp,J C m.Fp,G A m.Stack.length c,G Ao m.Out.length co,J C m.State,J C m.Value] m S/\(∀ b∈S,Y.heap.size<=b)/\∀ p∈B,p.1∉S:=by
 obtain⟨A,c,S,Ao,co,So,h⟩:=h;refine⟨A,c,Ao,co,h.iF.jw,S++So,⟨Bw h.ok.pc h.ok.sp h.ok.fp h.iF.stack.1 h.iF.out.1 h.ok.st h.ok.va,Rs.2 ⟨h.iF.stack.2,h.iF.out.2,fun a ha b hb he=>h.iF.jS a ha (he ▸ hb)⟩⟩,fun b hb=>?_,fun p hp hm=>?_⟩
 ·rcases Q7.1 hb with hb | hb
  ·exact h.ls b hb
  ·exact h.lo b hb
 ·obtain⟨_,_,_,h4,h5⟩:=h.kb p hp
  rcases Q7.1 hm with hb | hb
  ·exact h4 hb
  ·exact h5 hb
theorem gX.all (h:gX B Y W QK gc gm bad m):∃ A c Ao co S,
  QL W ⟨gc,0,D⟩=Z (.pointer (Z ⟨gm,0,D⟩))/\QL W ⟨gc,1,D⟩=Z (H bad)/\(∀ j,Rb W ⟨gc,j,D⟩=I)/\gc<W.heap.size/\
  W.heap[gm]?=Z (F #[J C m.Pc,J C m.Sp,J C m.Fp,G A m.Stack.length c,G Ao m.Out.length co,J C m.State,J C m.Value] 41 (0,0))/\nB QK m/\
  Has jX W [J C m.Pc,J C m.Sp,J C m.Fp,G A m.Stack.length c,G Ao m.Out.length co,J C m.State,J C m.Value] m S/\(∀ b∈S,Y.heap.size<=b)/\∀ p∈B,p.1∉S:=by
 obtain⟨_,_,_,_,y0,y1,yf,yl,_,_,_,_,_,_,_,_,_,hk⟩:=h.cells;obtain⟨A,c,Ao,co,e,S,h1,h2,h3⟩:=h.fresh;exact⟨A,c,Ao,co,S,y0,y1,yf,yl,e,hk,h1,h2,h3⟩
def NC (m x:fy)(A0:X Ri)(c0:Nat)(A1:X Ri)(c1:Nat)(QK:Nat)(w:U)(r:Ending)(w':U):Prop:=
 ∃ B0 d0 B1 d1,r=.returned (.agg #[J C x.Pc,J C x.Sp,J C x.Fp,G B0 x.Stack.length d0,G B1 x.Out.length d1,J C x.State,J C x.Value])/\ft w w'/\nB QK x/\
  (fU jX w w' [J C x.Pc,J C x.Sp,J C x.Fp,G B0 x.Stack.length d0,G B1 x.Out.length d1,J C x.State,J C x.Value] x∨(x = { m with State:=2 }/\B0=A0/\d0=c0/\B1=A1/\d1=c1))
theorem Lt (h:jy s.fq s.fu m.Pc 0=(-1,-1)):kW s m = { m with State:=2 }:=by
 unfold kW loc;rw[h];rfl
theorem Ol {j:Nat} {y:gu} {b:Int} (h:jy s.fq s.fu m.Pc 0=((j:Int),m.Pc-b))(hy:s.fq[j]?=Z y) :
  kW s m=if (jh y.Code (m.Pc-b)).ok=M then (((zO s.Entries { m with Pc:=m.Pc+((jh y.Code (m.Pc-b)).n:Int) } (jh y.Code (m.Pc-b)).code (jh y.Code (m.Pc-b)).arg).bind ny).getD { m with State:=2 }) else { m with State:=2 }:=by
 unfold kW loc;rw[h];simp only;rw[QZ (by omega),Ra,hy]
theorem nB.stop (h:nB QK m):nB (QK+1) { m with State:=2 }:=
 have i2:fD 2:=⟨by decide,by decide⟩
 ⟨h.len,by have:=h.out;show m.Out.length<=_;omega,h.pc,h.sp,h.fp,i2,h.va⟩
theorem Qa (w:U)(ca cb cc cd:Array Value)(ta tb tc td:TypeId):((((w.alloc (F ca ta)).alloc (F cb tb)).alloc (F cc tc)).alloc (F cd td)).heap[w.heap.size]?=Z (F ca ta (0,0))/\((((w.alloc (F ca ta)).alloc (F cb tb)).alloc (F cc tc)).alloc (F cd td)).heap[w.heap.size+1]?=Z (F cb tb (0,0))/\
  ((((w.alloc (F ca ta)).alloc (F cb tb)).alloc (F cc tc)).alloc (F cd td)).heap[w.heap.size+1+1]?=Z (F cc tc (0,0))/\((((w.alloc (F ca ta)).alloc (F cb tb)).alloc (F cc tc)).alloc (F cd td)).heap[w.heap.size+1+1+1]?=Z (F cd td (0,0)):=by
 refine⟨zj (QO w _) gF,?_,?_,?_⟩
 ·have h:=QO (w.alloc (F ca ta)) (F cb tb)
  rw[Rf] at h;exact zj h gF
 ·have h:=QO ((w.alloc (F ca ta)).alloc (F cb tb)) (F cc tc)
  rw[Rf,Rf] at h;exact zj h gF
 ·have h:=QO (((w.alloc (F ca ta)).alloc (F cb tb)).alloc (F cc tc)) (F cd td)
  rw[Rf,Rf,Rf] at h;exact h
theorem ur {g:Prop} (f:g:=by
  rw[HS.out]
  exact QU (v:=.agg #[J C m.Pc,J C m.Sp,J C m.Fp,G A3 m.Stack.length c3,G A4 m.Out.length c4,J C 2,J C m.Value]) (by simp[Rd,results80,go_sem,r0,r1,r2,r3,r4,r5,r6]) rfl ⟨A3,c3,A4,c4,rfl,hGX,HKS.out,.inr ⟨rfl,rfl,rfl,rfl,rfl⟩⟩):g:=f
theorem zuP {A0 A1 A2 A3 A4:X Ri} {c0 c1 c2 c3 c4:Nat} (h0:(iL.sl 103).R w w.heap.size [G A0 s.fq.length c0] s.fq)(h1:(zr.sl 3).R w w.heap.size [G A1 s.fu.length c1] s.fu)
  (h2:(zr.sl 3).R w w.heap.size [G A2 s.Entries.length c2] s.Entries) (h3:(zr.sl 3).R w w.heap.size [G A3 m.Stack.length c3] m.Stack) (h4:(zr.sl 3).R w w.heap.size [G A4 m.Out.length c4] m.Out)
  (hl:s.fq.length=s.fu.length) (hst:∀ x∈s.fq,x.Code.size<=1099511627776) (hbs:∀ b∈s.fu,fT b 1 1000000=M) (hk:nB QK m) (hN:QK<=1099511620000) (hm0:m.State=0) :
  Rh prog 80 #[.agg #[G A0 s.fq.length c0,G A1 s.fu.length c1,G A2 s.Entries.length c2],.agg #[J C m.Pc,J C m.Sp,J C m.Fp,G A3 m.Stack.length c3,G A4 m.Out.length c4,J C m.State,J C m.Value]] w (NC m (kW s m) A3 c3 A4 c4 (QK+1) w):=by
 obtain⟨_,_,aV,bR,aA⟩:=lu h0;injection aV with e1 e2 e3
 subst e1 e3;clear e2;obtain⟨_,_,aV,bJ,bK⟩:=lu h2;injection aV with e1 e2 e3
 subst e1 e3;clear e2;have a8:ft w ((((w.alloc (F #[G A0 s.fq.length c0,G A1 s.fu.length c1,G A2 s.Entries.length c2] 28)).alloc (F #[J C m.Pc,J C m.Sp,J C m.Fp,G A3 m.Stack.length c3,G A4 m.Out.length c4,J C 0,J C m.Value] 41)).alloc (F #[J C 0,J C 0,J C 0,G D 0 0,G D 0 0,J C 0,J C 0] 41)).alloc (F #[J C m.Pc,J C m.Sp,J C m.Fp,G A3 m.Stack.length c3,G A4 m.Out.length c4,J C 2,J C m.Value] 41)):=gG;obtain⟨aq,ar,ag,au⟩:=Qa w #[G A0 s.fq.length c0,G A1 s.fu.length c1,G A2 s.Entries.length c2] #[J C m.Pc,J C m.Sp,J C m.Fp,G A3 m.Stack.length c3,G A4 m.Out.length c4,J C 0,J C m.Value] #[J C 0,J C 0,J C 0,G D 0 0,G D 0 0,J C 0,J C 0] #[J C m.Pc,J C m.Sp,J C m.Fp,G A3 m.Stack.length c3,G A4 m.Out.length c4,J C 2,J C m.Value] 28 41 41 41;have k0:=Ty.up _ h0 a8;have k1:=Ty.up _ h1 a8;have k2:=Ty.up _ h2 a8;have k3:=Ty.up _ h3 a8;have k4:=Ty.up _ h4 a8;have aD:=fh hl;have aE:=fh hst;have aC:=fh hbs;have HKS:=fh hk.stop;have an:=hk.pc;have i1:fD 1:=⟨by decide,by decide⟩
 clear hl;obtain⟨g,hg⟩:∃ g,w.heap.size=g:=⟨_,rfl⟩
 go_enter func80,ntmps80;go_upto_region 5 with(fail);rw[hg] at aq ar ag au;generalize ((((w.alloc _).alloc _).alloc _).alloc _)=Y at a8 aq ar ag au k0 k1 k2 k3 k4 |-;have bL:=a8.size;clear h0 h1 h2 h3 h4;obtain⟨a0,a1,a2,af,al⟩:=jc aq;obtain⟨aF,aG,aH,aI,aJ,aK,aL,bf,bl⟩:=zS ar;obtain⟨z0,z1,z2,z3,z4,z5,z6,zf,zl⟩:=zS ag;obtain⟨x0,x1,x2,x3,x4,x5,x6,xf,xl⟩:=zS au;rcases MJ s.fq s.fu m.Pc 0 with h | ⟨j,y,b,hj,hb,h,bH,bI⟩
 ·have HL:=fh h
  have HQ:=fh (Lt h);clear h hst hbs hk;go_wp2_with(go_at_call 129;(with_reducible refine(zlc (imgs:=s.fq) (bases:=s.fu) (es:=s.Entries) (e:=m.Pc) (Ty.up _ k0 gG) (Ty.up _ k1 gG) aD.out aE.out aC.out an).mono ?_);rw[HL.out];rintro e w1 ⟨rfl,a6,d1,rfl⟩);rw[HQ.out];have h9:=mK ag (J C m.Pc) (J C m.Sp) (J C m.Fp) (G A3 m.Stack.length c3) (G A4 m.Out.length c4) (J C 2) (J C m.Value);generalize (((((((Y.setCell _ _).setCell _ _).setCell _ _).setCell _ _).setCell _ _).setCell _ _).setCell _ _)=QJ at h9 |-;have hGX:=h9.2.fx a8 (fun b hb'=>by simp at hb';omega);obtain⟨r0,r1,r2,r3,r4,r5,r6,_,_⟩:=zS (zj h9.1 (ft.of QJ a6 d1));exact QU (v:=.agg #[J C m.Pc,J C m.Sp,J C m.Fp,G A3 m.Stack.length c3,G A4 m.Out.length c4,J C 2,J C m.Value]) (by simp[Rd,results80,go_sem,r0,r1,r2,r3,r4,r5,r6]) rfl ⟨A3,c3,A4,c4,rfl,hGX.more a6 d1,HKS.out,.inr ⟨rfl,rfl,rfl,rfl,rfl⟩⟩
 ·rw[Rk] at h
  have HL:=fh h;have bt:j<s.fq.length:=(QM.1 hj).1;obtain⟨g',bB,y',Ax,cx,rfl,bs,ao,m0,m1,p0,bw⟩:=qW k0 bt;have bA:y'=y:=by rw[hj] at ao;injection ao with ao;exact ao.symm
  subst bA;have bi:y'.Code.size<=1099511627776:=hst y' (Q9 hj);have bp:=zu.1 (hbs b (Q9 hb));have bb:fD (m.Pc-b):=⟨by have:=an.1;omega,by have:=an.2;omega⟩
  have bM:¬ ((j:Int)<0):=by omega
  have bN:(j:Int)<(s.fq.length:Int):=by omega
  have aj:=Ol h hj;obtain⟨r,hr⟩:∃ r,jh y'.Code (m.Pc-b)=r:=⟨_,rfl⟩
  rw[hr] at aj;have HR:=fh hr;have aB:=wN hr;have bc:=Cv hr;have aQ:=Nq hr;obtain⟨bC,aT⟩:∃ q,r.ok=q:=⟨_,rfl⟩
  rw[aT] at aj aB;cases bC with
  | false=>
   have HQ:=fh (aj.trans (QZ (by simp)));clear h hst hbs hk aj aB bc aQ hr hj hb ao
   go_wp2_with(first
    | (go_at_call 129;(with_reducible refine(zlc (imgs:=s.fq) (bases:=s.fu) (es:=s.Entries) (e:=m.Pc) (Ty.up _ k0 gG) (Ty.up _ k1 gG) aD.out aE.out aC.out an).mono ?_);rw[HL.out];rintro e w1 ⟨rfl,a6,d1,rfl⟩;have bk:=zd m0 a6 d1;have b7:=zd a0 a6 d1)
    | (go_at_call 130;(with_reducible refine(zgc y'.Code (m.Pc-b) _ bi bb).mono ?_);rw[HR.out];rintro e w2 ⟨rfl,ap,d2,rfl⟩))
   rw[HQ.out];have h9:=mK ag (J C m.Pc) (J C m.Sp) (J C m.Fp) (G A3 m.Stack.length c3) (G A4 m.Out.length c4) (J C 2) (J C m.Value);generalize (((((((Y.setCell _ _).setCell _ _).setCell _ _).setCell _ _).setCell _ _).setCell _ _).setCell _ _)=QJ at h9 |-;have hGX:=h9.2.fx a8 (fun b hb'=>by simp at hb';omega);have ba:ft QJ ((fx (fx QJ a6 d1) ap d2).alloc (F #[J C r.code,J C r.arg] 142)):=gG;obtain⟨r0,r1,r2,r3,r4,r5,r6,_,_⟩:=zS (zj h9.1 ba);exact QU (v:=.agg #[J C m.Pc,J C m.Sp,J C m.Fp,G A3 m.Stack.length c3,G A4 m.Out.length c4,J C 2,J C m.Value]) (by simp[Rd,results80,go_sem,r0,r1,r2,r3,r4,r5,r6]) rfl ⟨A3,c3,A4,c4,rfl,hGX.trans ba,HKS.out,.inr ⟨rfl,rfl,rfl,rfl,rfl⟩⟩
  | true=>
   have HQ:=fh (aj.trans (Q5 rfl));have b4:IN r.code r.arg:=aQ;have bm:=fh b4;have bo:fD r.arg:=⟨by omega,by omega⟩
   obtain⟨_,bP,bQ,_,bq,br⟩:=aB rfl
   have ay:lC m<=1099511627776:=by
    have h1:=hk.len;have h2:=hk.out;unfold lC;omega
   have bn:=fh ay;have HM:=fh hk;have aU:fD m.State:=hk.st;clear h hst hbs aj aB bc aQ b4 hr hj hb ao ay
   go_upto_region 11 with(first
    | (go_at_call 129;(with_reducible refine(zlc (imgs:=s.fq) (bases:=s.fu) (es:=s.Entries) (e:=m.Pc) (Ty.up _ k0 gG) (Ty.up _ k1 gG) aD.out aE.out aC.out an).mono ?_);rw[HL.out];rintro e w1 ⟨rfl,a6,d1,rfl⟩;have bk:=zd m0 a6 d1;have b7:=zd a0 a6 d1)
    | (go_at_call 130;(with_reducible refine(zgc y'.Code (m.Pc-b) _ bi bb).mono ?_);rw[HR.out];rintro e w2 ⟨rfl,ap,d2,rfl⟩))
   have a9:ft Y ((fx (fx Y a6 d1) ap d2).alloc (F #[J C r.code,J C r.arg] 142)):=gG;have ak:=QO (fx (fx Y a6 d1) ap d2) (F #[J C r.code,J C r.arg] 142);rw[lr,lr] at ak;obtain⟨g5,bd⟩:∃ g5,Y.heap.size+a6.size+ap.size=g5:=⟨_,rfl⟩
   rw[bd] at ak |-;have q0:=zj aq a9;have q1:=zj ar a9;have q2:=zj ag a9;have q3:=zj au a9;have bj:=Ty.up _ k2 a9;have aW:=Ty.up _ k3 a9;have aX:=Ty.up _ k4 a9;generalize (fx (fx Y a6 d1) ap d2).alloc _=W1 at a9 ak q0 q1 q2 q3 bj aW aX |-;have am:=a8.trans a9;have aA:=zhu (x:=m) an hk.sp hk.fp aW aX aU hk.va bn.out;clear k0 k1 k2 k3 k4 a0 a1 a2 af al aF aG aH aI aJ aK aL bf bl z0 z1 z2 z3 z4 z5 z6 zf zl x0 x1 x2 x3 x4 x5 x6 xf xl m0 m1 p0 bw aq ar ag au bk b7 bs bd hk;rw[hm0] at aA;have b5:=fh aA;clear aA;obtain⟨a0,a1,a2,af,al⟩:=jc q0;obtain⟨aF,aG,aH,aI,aJ,aK,aL,bf,bl⟩:=zS q1;obtain⟨o0,o1,aY,aZ,ol⟩:=kI ak;have bz:Sf (m.Pc+(r.n:Int))=m.Pc+(r.n:Int):=rS (by omega) (by omega);go_upto_region 14 with(go_at_call 79;(with_reducible refine b5.out.mono ?_);rintro e w3 ⟨B0,d0,B1,d1,rfl,b8,b0,d3,rfl⟩)
   have hC:=gX.make (B:=[(g,F #[G (Z ⟨g',bB,D⟩) s.fq.length c0,G A1 s.fu.length c1,G A2 s.Entries.length c2] 28 (0,0)),(g+1,F #[J C m.Pc,J C m.Sp,J C m.Fp,G A3 m.Stack.length c3,G A4 m.Out.length c4,J C 0,J C m.Value] 41 (0,0)),(g+1+1,F #[J C 0,J C 0,J C 0,G D 0 0,G D 0 0,J C 0,J C 0] 41 (0,0)),(g+1+1+1,F #[J C m.Pc,J C m.Sp,J C m.Fp,G A3 m.Stack.length c3,G A4 m.Out.length c4,J C 2,J C m.Value] 41 (0,0)),(g5,F #[J C r.code,J C r.arg] 142 (0,0))]) (QK:=QK) (m':={ m with Pc:=m.Pc+(r.n:Int) }) (row:=#[J C (m.Pc+(r.n:Int)),J C m.Sp,J C m.Fp,G B0 m.Stack.length d0,G B1 m.Out.length d1,J C 0,J C m.Value]) (by simp[hm0]) b8 (ft.refl _) (ft.of W1 b0 d3) (by
    intro p hp;simp only[Rp,RO,SH] at hp;rcases hp with rfl | rfl | rfl | rfl | rfl
    ·exact q0
    ·exact q1
    ·exact q2
    ·exact q3
    ·exact ak) ⟨HM.out.len,HM.out.out,⟨by show _<=m.Pc+(r.n:Int);omega,by show m.Pc+(r.n:Int)<=_;omega⟩,HM.out.sp,HM.out.fp,HM.out.st,HM.out.va⟩ rfl rfl
   rw[lr] at hC;obtain⟨gm,be⟩:∃ gm,W1.heap.size+b0.size=gm:=⟨_,rfl⟩
   rw[be] at hC |-;obtain⟨mm,aS⟩:∃ mm,({ m with Pc:=m.Pc+(r.n:Int) }:fy)=mm:=⟨_,rfl⟩
   have bu : -4611686018427387904<=mm.Pc/\mm.Pc<=4611686018427387904:=by rw[<-aS];exact⟨by show _<=m.Pc+(r.n:Int);omega,by show m.Pc+(r.n:Int)<=_;omega⟩
   have aO:=HQ.out;rw[aS] at hC aO;generalize ((fx W1 b0 d3).alloc _).alloc _=wc at hC |-;have HC:=fh hC;have b6:=fh aO;have bG:=fh hm0;clear hC aS be HQ aO q0 q1 q2 q3 ak aW aX aF aG aH aI aJ aK aL bf bl o0 o1 aY aZ ol a0 a1 a2 af al bz b5 b8 hm0;obtain⟨q0,q1,q2,qf,ql⟩:=jc (HC.out.kept (g:=g) (.head _));obtain⟨o0,o1,aY,aZ,ol⟩:=kI (HC.out.kept (g:=g5) (.tail _ (.tail _ (.tail _ (.tail _ (.head _))))));go_upto_region 15 with(go_at_call 131;(with_reducible refine(MN (es:=s.Entries) HC.out bj (by omega) (by omega) bu ⟨bq,br⟩ bm.out bo).mono ?_);rintro e w4 ⟨rfl,b1,m1,av,bh⟩);have b9:kW s m=((opt b1 m1).bind ny).getD { m with State:=2 }:=by rw[b6.out,bh];rfl
   have az:=fh b9;clear b9 bh q0 q1 q2 qf ql o0 o1 aY aZ ol b6;obtain⟨Ay,cy,a4,a5,y0,y1,yf,yl,z0,z1,z2,z3,z4,z5,z6,zf,zl,a3⟩:=av.cells;obtain⟨x0,x1,x2,x3,x4,x5,x6,xf,xl⟩:=zS (av.kept (g:=g+1+1+1) (.tail _ (.tail _ (.tail _ (.head _)))));obtain⟨u0,u1,u2,u3,u4,u5,u6,uf,ul⟩:=zS (av.kept (g:=g+1+1) (.tail _ (.tail _ (.head _))));have ad:=fh av;clear av;cases b1 with
   | true=>
    have HS:=fh (az.out.trans rfl);go_wp2_with(fail);have hz:=(ad.out.kept (g:=g+1+1) (.tail _ (.tail _ (.head _))))
    have h9:=mK hz (J C m.Pc) (J C m.Sp) (J C m.Fp) (G A3 m.Stack.length c3) (G A4 m.Out.length c4) (J C 2) (J C m.Value);generalize (((((((w4.setCell _ _).setCell _ _).setCell _ _).setCell _ _).setCell _ _).setCell _ _).setCell _ _)=QJ at h9 |-;obtain⟨r0,r1,r2,r3,r4,r5,r6,_,_⟩:=zS h9.1;have hGX:=h9.2.fx (am.trans ad.out.grow) (fun b hb'=>by simp at hb';omega);exact ur
   | false=>
    by_cases hpz:m1.Pc=0
    ·have aM:=ad.out.num (i:=5) (v:=J C 1) (m':={ m1 with State:=1 }) rfl rfl ⟨a3.len,a3.out,a3.pc,a3.sp,a3.fp,i1,a3.va⟩ (fun _ _=>rfl)
     go_upto_region 17 with(fail);generalize w4.setCell _ _=w5 at aM |-;have ai:=fh aM;clear aM;clear Ay cy a4 a5 y0 y1 yf yl z0 z1 z2 z3 z4 z5 z6 zf zl a3 x0 x1 x2 x3 x4 x5 x6 xf xl u0 u1 u2 u3 u4 u5 u6 uf ul;obtain⟨Ay,cy,a4,a5,SS,y0,y1,yf,yl,eM,a3,aa,ab,ac⟩:=ai.out.all;obtain⟨z0,z1,z2,z3,z4,z5,z6,zf,zl⟩:=zS eM;obtain⟨x0,x1,x2,x3,x4,x5,x6,xf,xl⟩:=zS (ai.out.kept (g:=g+1+1+1) (.tail _ (.tail _ (.tail _ (.head _)))));obtain⟨u0,u1,u2,u3,u4,u5,u6,uf,ul⟩:=zS (ai.out.kept (g:=g+1+1) (.tail _ (.tail _ (.head _))));obtain⟨q,hq⟩:∃ q,fT m1.Sp 0 1199=q:=⟨_,rfl⟩
     cases q with
     | false=>
      have HS:=fh (az.out.trans (show ((Z m1).bind ny).getD { m with State:=2 } = { m with State:=2 } from by show (ny m1).getD _=_;unfold ny;rw[Q5 hpz,yg hq];rfl));have HA:=fh (show (I || !fT m1.Sp 0 1199)=M from by rw[hq];rfl);clear hq;go_upto_region 19 with(go_at_call 132;(with_reducible refine(ai.out.at_ (a:=m1.Sp)).mono ?_);rw[HA.out];rintro e w6 ⟨rfl,aw⟩);have a7:=fh aw;clear aw;clear Ay cy a4 a5 y0 y1 yf yl z0 z1 z2 z3 z4 z5 z6 zf zl a3 x0 x1 x2 x3 x4 x5 x6 xf xl u0 u1 u2 u3 u4 u5 u6 uf ul eM aa ab ac;obtain⟨Ay,cy,a4,a5,SS,y0,y1,yf,yl,eM,a3,aa,ab,ac⟩:=a7.out.all;obtain⟨z0,z1,z2,z3,z4,z5,z6,zf,zl⟩:=zS eM;obtain⟨x0,x1,x2,x3,x4,x5,x6,xf,xl⟩:=zS (a7.out.kept (g:=g+1+1+1) (.tail _ (.tail _ (.tail _ (.head _)))));obtain⟨u0,u1,u2,u3,u4,u5,u6,uf,ul⟩:=zS (a7.out.kept (g:=g+1+1) (.tail _ (.tail _ (.head _))));go_wp2_with(fail);have hz:=(a7.out.kept (g:=g+1+1) (.tail _ (.tail _ (.head _))))
      have h9:=mK hz (J C m.Pc) (J C m.Sp) (J C m.Fp) (G A3 m.Stack.length c3) (G A4 m.Out.length c4) (J C 2) (J C m.Value);generalize (((((((w6.setCell _ _).setCell _ _).setCell _ _).setCell _ _).setCell _ _).setCell _ _).setCell _ _)=QJ at h9 |-;obtain⟨r0,r1,r2,r3,r4,r5,r6,_,_⟩:=zS h9.1;have hGX:=h9.2.fx (am.trans a7.out.grow) (fun b hb'=>by simp at hb';omega);exact ur
     | true=>
      have bp:=zu.1 hq;obtain⟨k,bv⟩:=Rl (show 0<=m1.Sp by omega);have ax:k<1200:=by omega
      obtain⟨_,vo,_,_,_,_,b3,bF,_⟩:=ai.out.word ax;have HS:=fh (az.out.trans (show ((Z m1).bind ny).getD { m with State:=2 } = { m1 with State:=1,Value:=vo } from by show (ny m1).getD _=_;unfold ny;rw[Q5 hpz,Dl hq (v:=vo) (by rw[bv];exact b3)];rfl));have HV:=fh b3;have HA:=fh (show (I || !fT (k:Int) 0 1199)=I from by rw[UK,pU (by omega) (by omega)];rfl);clear hq b3;go_upto_region 18 with(go_at_call 132;(with_reducible refine(ai.out.at_ (a:=(k:Int))).mono ?_);rw[HA.out];rintro e w6 ⟨rfl,aw⟩);have a7:=fh aw;clear aw;clear Ay cy a4 a5 y0 y1 yf yl z0 z1 z2 z3 z4 z5 z6 zf zl a3 x0 x1 x2 x3 x4 x5 x6 xf xl u0 u1 u2 u3 u4 u5 u6 uf ul eM aa ab ac;obtain⟨Ay,cy,a4,a5,SS,y0,y1,yf,yl,eM,a3,aa,ab,ac⟩:=a7.out.all;obtain⟨z0,z1,z2,z3,z4,z5,z6,zf,zl⟩:=zS eM;obtain⟨x0,x1,x2,x3,x4,x5,x6,xf,xl⟩:=zS (a7.out.kept (g:=g+1+1+1) (.tail _ (.tail _ (.tail _ (.head _)))));obtain⟨u0,u1,u2,u3,u4,u5,u6,uf,ul⟩:=zS (a7.out.kept (g:=g+1+1) (.tail _ (.tail _ (.head _))));obtain⟨gs,vp,cs,t3,tl,tf,tv,tb,tc,bD,bE,b2⟩:=a7.out.word ax;obtain rfl:vo=vp:=by have:=HV.out.symm.trans tv;injection this
      have aR:((1200:Nat):Int)=m1.Stack.length:=by rw[<-a3.len]
      have bO:(k:Int)<(m1.Stack.length:Int):=by rw[<-aR];omega
      clear z3 b2;have ah:=a7.out.num (i:=6) (v:=J C vo) (m':={ m1 with State:=1,Value:=vo }) rfl rfl ⟨a3.len,a3.out,a3.pc,a3.sp,a3.fp,i1,bF⟩ (fun _ _=>rfl);have ae:=fh ah;clear ah;go_upto_region 19 with(fail);have ah:=ae.out;have aP:=HS.out;obtain⟨m3,bg⟩:∃ m3,({ m1 with State:=1,Value:=vo }:fy)=m3:=⟨_,rfl⟩
      rw[bg] at ah aP;clear ae HS bg;have HS:=fh aP;generalize w6.setCell _ _=w7 at ah |-;have ae:=fh ah;clear ah aP;clear t3 tl tf tv tb tc bD bE y0 y1 yf yl z0 z1 z2 z4 z5 z6 zf zl x0 x1 x2 x3 x4 x5 x6 xf xl u0 u1 u2 u3 u4 u5 u6 uf ul a3 eM aa ab ac;obtain⟨Ay,cy,a4,a5,SS,y0,y1,yf,yl,eM,a3,aa,ab,ac⟩:=ae.out.all;obtain⟨z0,z1,z2,z3,z4,z5,z6,zf,zl⟩:=zS eM;obtain⟨x0,x1,x2,x3,x4,x5,x6,xf,xl⟩:=zS (ae.out.kept (g:=g+1+1+1) (.tail _ (.tail _ (.tail _ (.head _)))));obtain⟨u0,u1,u2,u3,u4,u5,u6,uf,ul⟩:=zS (ae.out.kept (g:=g+1+1) (.tail _ (.tail _ (.head _))));go_wp2_with(fail);have hz:=(ae.out.kept (g:=g+1+1) (.tail _ (.tail _ (.head _))))
      have h9:=mK hz (J C m3.Pc) (J C m3.Sp) (J C m3.Fp) (G Ay m3.Stack.length cy) (G a4 m3.Out.length a5) (J C m3.State) (J C m3.Value);generalize (((((((w7.setCell _ _).setCell _ _).setCell _ _).setCell _ _).setCell _ _).setCell _ _).setCell _ _)=QJ at h9 |-;obtain⟨r0,r1,r2,r3,r4,r5,r6,_,_⟩:=zS h9.1;have hGX:=h9.2.fx (am.trans ae.out.grow) (fun b hb'=>by simp at hb';omega);have aN:=aa.fJ h9.2 (fun b hb' hm=>by simp at hm;exact ac _ (.tail _ (.tail _ (.head _))) (hm ▸ hb'));have bx:=am.size;rw[HS.out];exact QU (v:=.agg #[J C m3.Pc,J C m3.Sp,J C m3.Fp,G Ay m3.Stack.length cy,G a4 m3.Out.length a5,J C m3.State,J C m3.Value]) (by simp[Rd,results80,go_sem,r0,r1,r2,r3,r4,r5,r6]) rfl ⟨Ay,cy,a4,a5,rfl,hGX,a3,.inl (aN.fresh (fun b hb'=>by have h1:=ab b hb';omega))⟩
    ·have HS:=fh (az.out.trans (show ((Z m1).bind ny).getD { m with State:=2 }=m1 from by show (ny m1).getD _=_;unfold ny;rw[QZ hpz];rfl))
     clear Ay cy a4 a5 y0 y1 yf yl z0 z1 z2 z3 z4 z5 z6 zf zl a3 x0 x1 x2 x3 x4 x5 x6 xf xl u0 u1 u2 u3 u4 u5 u6 uf ul;obtain⟨Ay,cy,a4,a5,SS,y0,y1,yf,yl,eM,a3,aa,ab,ac⟩:=ad.out.all;obtain⟨z0,z1,z2,z3,z4,z5,z6,zf,zl⟩:=zS eM;obtain⟨x0,x1,x2,x3,x4,x5,x6,xf,xl⟩:=zS (ad.out.kept (g:=g+1+1+1) (.tail _ (.tail _ (.tail _ (.head _)))));obtain⟨u0,u1,u2,u3,u4,u5,u6,uf,ul⟩:=zS (ad.out.kept (g:=g+1+1) (.tail _ (.tail _ (.head _))));go_wp2_with(fail);have hz:=(ad.out.kept (g:=g+1+1) (.tail _ (.tail _ (.head _))))
     have h9:=mK hz (J C m1.Pc) (J C m1.Sp) (J C m1.Fp) (G Ay m1.Stack.length cy) (G a4 m1.Out.length a5) (J C m1.State) (J C m1.Value);generalize (((((((w4.setCell _ _).setCell _ _).setCell _ _).setCell _ _).setCell _ _).setCell _ _).setCell _ _)=QJ at h9 |-;obtain⟨r0,r1,r2,r3,r4,r5,r6,_,_⟩:=zS h9.1;have hGX:=h9.2.fx (am.trans ad.out.grow) (fun b hb'=>by simp at hb';omega);have aN:=aa.fJ h9.2 (fun b hb' hm=>by simp at hm;exact ac _ (.tail _ (.tail _ (.head _))) (hm ▸ hb'));have bx:=am.size;rw[HS.out];exact QU (v:=.agg #[J C m1.Pc,J C m1.Sp,J C m1.Fp,G Ay m1.Stack.length cy,G a4 m1.Out.length a5,J C m1.State,J C m1.Value]) (by simp[Rd,results80,go_sem,r0,r1,r2,r3,r4,r5,r6]) rfl ⟨Ay,cy,a4,a5,rfl,hGX,a3,.inl (aN.fresh (fun b hb'=>by have h1:=ab b hb';omega))⟩
theorem K7 (s:gv)(m:fy):kW s m=if (sR s m.Pc).ok=M then (((zO s.Entries { m with Pc:=m.Pc+((sR s m.Pc).n:Int) } (sR s m.Pc).code (sR s m.Pc).arg).bind ny).getD { m with State:=2 }) else { m with State:=2 }:=by
 unfold kW sR;simp only;by_cases h:(loc s m.Pc).1<0
 ·rw[Q5 h,Q5 h]
  rfl
 ·rw[QZ h,QZ h]
  cases s.fq[(loc s m.Pc).1.toNat]? with
  | none=>rfl
  | some i=>rfl
end Go.Proofs.YthgbglbaemelhaaGreat
