/-
  PART.
-/
import Derived.Test.YthgbglbaemelhaaGreatM5LawRecords
set_option linter.unusedVariables false
set_option linter.unusedSimpArgs false
set_option maxRecDepth 100000
set_option maxHeartbeats 8000000
namespace Go.Proofs.YthgbglbaemelhaaGreat
open Value renaming slice->J,int->C,bool->X,string->Q
open IntKind renaming i64->Z,wrap->Vl
open Option renaming none->I,some->F
open Obj renaming cells->U
open Bool renaming false->M,true->H
open Go renaming World->V,results->VF,Calls->VK,Addr->VQ,TypeId->Wl,Ending->Z9,yielded->Xb
open World renaming cell?->Vg,frozen?->VE,alloc->WJ
open _root_.Int renaming toNat_natCast->Vy
open List renaming length_cons->VC,length_nil->VZ,nil_append->Wo,range'->Yj
open RowKit renaming intOf->Wj
open _root_.Nat renaming add_zero->Wk
open Region renaming wanted->V6,ready->Wv,noSelect->XV,Mode->XY,free->YI
open Tryz
open Go.RowKit
variable {A A0 A1 Ac Ad Ai Al As Av:N VQ}{L:D G}{P:kw}{Si Ss:D Nat}{W W' w:V}{c c0 c1 cc cd ci cl cs cv e i k n nl nv:Nat}{ft:D Int}{d line:Int}{m:gA}{p xs:D fB}{rows:D (D Value)}{s:G}{st:Bool}{x:fB}
def nC {α:Type} [DecidableEq α]:D α->α->Nat->Int
 | [],_,_=>-1
 | x::r,v,i=>if v=x then i else nC r v (i+1)
theorem Kk {α:Type} [DecidableEq α]{xs:D α}{k:Nat}{x v:α}(h:xs[k]?=F x)(i:Nat):nC (xs.drop k) v i=if v=x then (i:Int) else nC (xs.drop (k+1)) v (i+1):=by
 obtain⟨h1,rfl⟩:=Vh.1 h;rw[VB h1];rfl
theorem J5 {α:Type} [DecidableEq α](v:α):∀(xs:D α)(i:Nat),0<=nC xs v i↔v∈xs
 | [],_=>by simp[nC]
 | x::r,i=>by
  unfold nC;split
  ·rename_i h;subst h;simp
  ·rename_i h;rw[J5 v r (i+1)];simp[h]
theorem CV {α:Type} [DecidableEq α](v:α)(xs:D α):decide (nC xs v 0≥0)=(xs.any fun y=>decide (y=v)):=by
 rw[Zk,YF,ge_iff_le,J5 v xs 0];simp
theorem zge {xs:D G} {v:G} (hx:(jB.sl 9).R w w.heap.size [J A xs.length c] xs)(hl:xs.length<=8796093022208) :
  VK prog 193 #[J A xs.length c,Q v] w fun e w'=>e=.returned (C Z (nC xs v 0))/\fy w w':=by
 go_enter func193,ntmps193;go_wp2_with(fail);go_loopw [5] (fun j wr=>∃(k:Nat),j=C Z k/\k<=xs.length/\Hid (fy w wr)/\Hid (nC (xs.drop k) v k=nC xs v 0)) (fun j _=>xs.length-(Wj j).toNat)
 case atStart=>exact⟨0,rfl,Vu _,fk gF,fk rfl⟩
 case round=>
  obtain⟨k,rfl,hk,hG,hE⟩:=hrel;by_cases hlt:k<xs.length
  ·obtain⟨g,a3,x,rfl,a0,x0,_⟩:=yG hx hlt
   have a1:(k:Int)<(xs.length:Int):=fh;have x0:=za hG.out x0;have HX:=fk a0;clear a0;by_cases hv:v=x
   ·have HF:Hid (nC xs v 0=k):=fk (by rw[<-hE.out,Kk HX.out,Vs hv])
    have a2:(x.toList == v.toList)=H:=by rw[mb];simp[hv]
    clear hv;go_wp2_with(fail);exact Vr (v:=C Z (k:Int)) (by simp[VF,results193,go_sem]) rfl ⟨by rw[HF.out],hG.out.trans gF⟩
   ·have HF:Hid (nC (xs.drop (k+1)) v (k+1)=nC xs v 0):=fk (by rw[<-hE.out,Kk HX.out,Vo hv])
    have a2:(x.toList == v.toList)=M:=by rw[mb];simp;exact fun h=>hv h.symm
    clear hv;go_wp2_with(fail);go_roundw;exact⟨k+1,io,fh,fk (hG.out.trans gF),HF⟩;exact iC
  ·obtain rfl:k=xs.length:=fh
   have a1:¬ ((xs.length:Int)<(xs.length:Int)):=fh;have HF:Hid (nC xs v 0 = -1):=fk (by rw[<-hE.out,VW];rfl);go_wp2_with(fail);exact Vr (v:=C Z (-1)) (by simp[VF,results193,go_sem]) rfl ⟨by rw[HF.out],hG.out.trans gF⟩
theorem Dv (k c:Int):(k == c)=decide (k=c):=by rw[Zk];simp
theorem qk (k c:Int):(k != c) = !decide (k=c):=by rw[bne,Dv]
def Fy (k:Int):Bool:=(!decide (k=0)) && ((!decide (k=4)) && !decide (k=7))
theorem Ol {k:Int} (h:gE k 0 7=H):Fy k=sF k:=by
 have h:=zr.1 h;have h2:k=0∨k=1∨k=2∨k=3∨k=4∨k=5∨k=6∨k=7:=fh;rcases h2 with rfl | rfl | rfl | rfl | rfl | rfl | rfl | rfl <;> rfl
theorem PX (k:Int)(w:V):VK prog 188 #[C Z k] w fun e w'=>e=.returned (X (Fy k))/\fy w w':=by
 go_enter func188,ntmps188;go_wp2_with(fail)
 all_goals
  go_ret
  refine⟨zp ?_,gG⟩
  unfold Fy
  simp_all [qk]
theorem Qx {xs:D G} {x:G} (h:xs[k]?=F x):sJ (xs.take k) (xs.drop k)=(mN x && (!(ld (xs.take k) x) && sJ (xs.take (k+1)) (xs.drop (k+1)))):=by
 obtain⟨h1,rfl⟩:=Vh.1 h;rw[VB h1,sJ,Wr,h];rfl
theorem Pb (h:gE x.fC 0 7=M):qo x=M:=by unfold qo;rw[h];rfl
theorem CH (h:rF x=M):qo x=M:=by unfold qo;rw[h];cases gE x.fC 0 7 <;> cases yJ x <;> rfl
theorem Ot (h:4<x.gD.length):rF x=M:=by
 unfold rF BU;split
 ·rw[Vp fh];rfl
 ·exact Vp fh
theorem Hc (h:x.fC≠0)(hl:0<x.gD.length):rF x=M:=by
 unfold rF;rw[Vo h];exact Vp fh
theorem Qy (h:x.fC=0)(hg:sJ [] x.gD=M):rF x=M:=by
 unfold rF BU;rw[Vs h,hg,Zn]
theorem Hq (hl:0<x.gD.length)(hg:sJ [] x.gD=M):rF x=M:=by
 by_cases h:x.fC=0
 ·exact Qy h hg
 ·exact Hc h hl
theorem Pt (h4:x.gD.length<=4)(h:0<x.gD.length->x.fC=0)(hg:sJ [] x.gD=H):rF x=H:=by
 unfold rF BU;split
 ·rw[Vv h4,hg];rfl
 ·rename_i hk
  exact Vv (by
   rcases XL x.gD.length with h1 | h1
   ·exact h1
   ·exact absurd (h h1) hk)
theorem J2 {xs:D G} {y:G} (h:xs[i]?=F y):ld (xs.take (i+1)) s=(ld (xs.take i) s || decide (y=s)):=by
 unfold ld;rw[Wr,h];simp
theorem TU {xs:D G} (h:i<=k)(hh:ld (xs.take i) s=H):ld (xs.take k) s=H:=by
 unfold ld at *
 rw[Xs] at *
 obtain⟨y,hy,he⟩:=hh;exact⟨y,(List.take_sublist_take_left h).subset hy,he⟩
theorem xk {g:Prop} (f:g:=by
  go_wp2_with(first | (go_at_call 133;refine(tg _ _ bx).mono ?_;rw[HN.out];rintro e w1 ⟨rfl,rfl⟩))
  all_goals exact Vr (v:=X M) (by simp[VF,results158,go_sem]) rfl ⟨by rw[HF.out],hgr.trans (hG.out.trans gF)⟩):g:=f
theorem zjX (b1:x.fJ.size<=9223372036854775807)(h2:(jB.sl 9).R w w.heap.size [J A0 x.gD.length c0] x.gD)(h3:(jY.sl 160).R w w.heap.size [J A1 x.Expr.length c1] x.Expr)(hl2:x.gD.length<=1099511627776)(hl3:x.Expr.length<=1099511627776) :
  VK prog 158 #[.agg #[C Z x.fC,Q x.fJ,J A0 x.gD.length c0,J A1 x.Expr.length c1]] w fun e w'=>e=.returned (X (qo x))/\fy w w':=by
 have hgr:fy w (w.alloc (U #[C Z x.fC,Q x.fJ,J A0 x.gD.length c0,J A1 x.Expr.length c1] 99)):=gF;obtain⟨y0,y1,y2,y3,_,yl⟩:=jF (Vj w (U #[C Z x.fC,Q x.fJ,J A0 x.gD.length c0,J A1 x.Expr.length c1] 99));rcases Wm (gE x.fC 0 7) with hb | hb
 rotate_left
 ·have HB:=fk hb
  have HF:=fk (Pb hb);clear hb;go_enter func158,ntmps158;go_wp2_with(first | (go_at_call 43;refine(iU _ _ _ _).mono ?_;rw[HB.out];rintro e w1 ⟨rfl,rfl⟩));exact Vr (v:=X M) (by simp[VF,results158,go_sem]) rfl ⟨by rw[HF.out],hgr.trans gF⟩
 have HB:=fk hb;clear hb;by_cases h4:4<x.gD.length
 ·have HF:=fk (CH (Ot h4))
  have a7:decide ((x.gD.length:Int) > 4)=H:=Vv fh;clear h4;go_enter func158,ntmps158;go_wp2_with(first | (go_at_call 43;refine(iU _ _ _ _).mono ?_;rw[HB.out];rintro e w1 ⟨rfl,rfl⟩))
  all_goals exact Vr (v:=X M) (by simp[VF,results158,go_sem]) rfl ⟨by rw[HF.out],hgr.trans gF⟩
 have a7:¬ ((x.gD.length:Int) > 4):=fh;have ae:¬ (4<(x.gD.length:Int)):=fh;obtain⟨q0,k0⟩:∃ q,(x.fC == 0)=q:=⟨_,rfl⟩
 have n0:(x.fC != 0) = !q0:=by rw[bne,k0]
 go_enter func158,ntmps158;go_wp2_with(first | (go_at_call 43;refine(iU _ _ _ _).mono ?_;rw[HB.out];rintro e w1 ⟨rfl,rfl⟩));go_loopw [3] (fun j wr=>∃(k:Nat),j=C Z k/\k<=x.gD.length/\Hid (fy (w.alloc (U #[C Z x.fC,Q x.fJ,J A0 x.gD.length c0,J A1 x.Expr.length c1] 99)) wr)/\Hid (sJ (x.gD.take k) (x.gD.drop k)=sJ [] x.gD)/\Hid (0<k->q0=H)) (fun j _=>x.gD.length-(Wj j).toNat)
 case atStart=>exact⟨0,rfl,Vu _,fk gF,fk rfl,fk fh⟩
 case round=>
  obtain⟨k,rfl,hk,hG,hE,hq⟩:=hrel;have u0:=za hG.out y0;have u1:=za hG.out y1;have u2:=za hG.out y2;have u3:=za hG.out y3;by_cases hlt:k<x.gD.length
  ·obtain⟨g,ag,s,rfl,a2,x0,bx⟩:=yG h2 hlt
   have aa:(k:Int)<(x.gD.length:Int):=fh;have ux:=za (hgr.trans hG.out) x0;have HA:=fk (Qx a2);have ad:=fk a2;clear a2;rcases Wm (mN s) with hn | hn
   rotate_left
   ·have HN:=fk hn
    have HF:Hid (qo x=M):=fk (CH (Hq fh (by rw[<-hE.out,HA.out,hn];rfl)));clear hn;exact xk
   have HN:=fk hn;clear hn;cases q0 with
   | false=>
    have HF:Hid (qo x=M):=fk (CH (Hc (Vw.1 k0) fh));exact xk
   | true=>
    go_wp2_with(first | (go_at_call 133;refine(tg _ _ bx).mono ?_;rw[HN.out];rintro e w1 ⟨rfl,rfl⟩));go_loopw [4] (fun j wi=>∃(i:Nat),j=C Z i/\i<=k/\Hid (fy wr wi)/\Hid (ld (x.gD.take i) s=M)) (fun j _=>k-(Wj j).toNat)
    case atStart=>exact⟨0,rfl,Vu _,fk gF,fk rfl⟩
    case round=>
     obtain⟨i,rfl,hi,a0,a3⟩:=hrel;have v0:=za (hG.out.trans a0.out) y0;have v1:=za (hG.out.trans a0.out) y1;have v2:=za (hG.out.trans a0.out) y2;have v3:=za (hG.out.trans a0.out) y3;have vx:=za ((hgr.trans hG.out).trans a0.out) x0;by_cases hik:i<k
     ·obtain⟨g2,ac,r,a1,a5,r0,br⟩:=yG h2 (show i<x.gD.length from fh)
      injection a1 with a1
      injection a1 with e1 e2
      subst e1 e2;have vr:=za ((hgr.trans hG.out).trans a0.out) r0;have a9:(i:Int)<(k:Int):=fh;have af:(i:Int)<(x.gD.length:Int):=fh;have HR:=fk a5;clear a5;by_cases hs:r=s
      ·have HF:Hid (qo x=M):=fk (CH (Hq fh (by rw[<-hE.out,HA.out,TU (i:=i+1) fh (by rw[J2 HR.out,hs];simp)];simp)))
       have ab:(r.toList == s.toList)=H:=by rw[mb];simp[hs]
       clear hs;go_wp2_with(fail);go_quiet (fail);go_wp2_with(fail)
       all_goals exact Vr (v:=X M) (by simp[VF,results158,go_sem]) rfl ⟨by rw[HF.out],hgr.trans (hG.out.trans (a0.out.trans gF))⟩
      ·have HF:Hid (ld (x.gD.take (i+1)) s=M):=fk (by rw[J2 HR.out,a3.out];simp[hs])
       have ab:(r.toList == s.toList)=M:=by rw[mb];simp[hs]
       clear hs;go_wp2_with(fail);go_quiet (fail);go_wp2_with(fail);go_roundw;exact⟨i+1,io,fh,fk (a0.out.trans gF),HF⟩;exact iC
     ·obtain rfl:i=k:=fh
      have a9:¬ ((i:Int)<(i:Int)):=fh;have HF:Hid (sJ (x.gD.take (i+1)) (x.gD.drop (i+1))=sJ [] x.gD):=fk (by rw[<-hE.out,HA.out,HN.out,a3.out];rfl);go_wp2_with(fail);go_roundw;exact⟨i+1,io,fh,fk (hG.out.trans (a0.out.trans gF)),HF,fk gm⟩;exact iC
  ·obtain rfl:k=x.gD.length:=fh
   have aa:¬ ((x.gD.length:Int)<(x.gD.length:Int)):=fh
   have HF:Hid (qo x=(yJ x && tx x)):=fk (by
    unfold qo;rw[HB.out,Pt fh (fun h=>by have:=hq.out h;rw[this] at k0;exact V4.1 k0) (by rw[<-hE.out,VW];rfl)]
    simp)
   have a6:=fk (Ol HB.out);have hgr:=hgr.trans hG.out;obtain⟨q1,k1⟩:∃ q,(x.fC == 1)=q:=⟨_,rfl⟩
   clear hq hE;cases q0 <;> cases q1
   all_goals
    go_wp2_with(first | (go_at_call 133;refine(tg _ _ b1).mono ?_;rintro e w1 ⟨rfl,rfl⟩) | (go_at_call 188;refine(PX _ _).mono ?_;rw[a6.out];rintro e v2 ⟨rfl,a4⟩;have hgr:=hgr.trans (fy.trans (b:=_) gF a4);have u3:=za (fy.trans (b:=_) gF a4) u3) | (go_at_call 189;refine(zmq (Ty.up _ h3 (hgr.trans gF)) hl3).mono ?_;rintro e v3 ⟨rfl,a8⟩;have hgr:=hgr.trans (fy.trans (b:=_) gF a8)))
   all_goals
    go_ret
    refine⟨zp ?_,hgr.trans gF⟩
    rw[HF.out]
    clear hgr
    unfold yJ tx
    simp_all [Dv,qk,Lv]
theorem AB (k:Int)(w:V):VK prog 190 #[C Z k] w fun e w'=>e=.returned (X (pG k))/\w=w':=by
 go_enter func190,ntmps190;go_wp2_with(fail)
 all_goals
  go_ret
  refine⟨zp ?_,rfl⟩
  unfold pG
  simp_all [Dv]
theorem tZ {g:Prop} (f:g:=by
  have HF:Hid (jA xs a=(i:Int)):=fk (by rw[<-hE.out,Bn HX.out,Vs (by rw[HD.out];omega)])
  clear hz
  go_wp2_with(first | (go_at_call 190;refine(AB _ _).mono ?_;rw[HO.out];rintro e w1 ⟨rfl,rfl⟩))
  exact Vr (v:=C Z (i:Int)) (by simp[VF,results160,go_sem]) rfl ⟨by rw[HF.out],hG.out.trans gF⟩):g:=f
theorem xy {g:Prop} (f:g:=by
  go_enter func160,ntmps160
  go_wp2_with(first | fail)
  all_goals exact Vr (v:=C Z (-1)) (by simp[VF,results160,go_sem]) rfl ⟨by rw[HF.out],gF⟩):g:=f
theorem zbF {k:Int} (hx:(zS.sl 99).R w w.heap.size [J A xs.length c] xs)(hl:xs.length<=1099511627776) :
  VK prog 160 #[J A xs.length c,C Z k] w fun e w'=>e=.returned (C Z (jA xs k))/\fy w w':=by
 have au:Vl Z ((xs.length:Int)-1)=(xs.length:Int)-1:=iw;by_cases hk:k<0
 ·have HF:Hid (jA xs k = -1):=fk (JW hk)
  exact xy
 obtain⟨a,rfl⟩:∃ a:Nat,k=(a:Int):=⟨k.toNat,fh⟩
 have an:¬ ((a:Int)<0):=hk;clear hk;by_cases hal:a<xs.length
 rotate_left
 ·have HF:Hid (jA xs a = -1):=fk (by
   unfold jA
   rw[Vo fh,Vy,XK fh])
  have al:(a:Int)≥(xs.length:Int):=fh;have a8:(xs.length:Int)<=(a:Int):=fh;clear hal;exact xy
 obtain⟨g,av,y,ab,af,ac,ag,rfl,ak,a1,y0,y1,y2,y3,b0,_,_,_⟩:=nA hx hal;have aj:(a:Int)<(xs.length:Int):=fh;have a5:¬ ((a:Int)≥(xs.length:Int)):=fh;have a6:¬ ((xs.length:Int)<=(a:Int)):=fh;rcases Wm (pG y.fC) with ho | ho
 rotate_left
 ·have HO:=fk ho
  have HF:Hid (jA xs a = -1):=fk (by
   unfold jA;rw[Vo fh,Vy,a1];simp only[ho]
   rfl)
  clear ho a1;go_enter func160,ntmps160;go_wp2_with(first | (go_at_call 190;refine(AB _ _).mono ?_;rw[HO.out];rintro e w1 ⟨rfl,rfl⟩))
  all_goals exact Vr (v:=C Z (-1)) (by simp[VF,results160,go_sem]) rfl ⟨by rw[HF.out],gF⟩
 have a4:=fk ho
 have HE:Hid (tw (xs.drop a) 0 a=jA xs a):=fk (by
  unfold jA;rw[Vo fh,Vy,a1]
  simp only[ho,Xe])
 clear ho a1;go_enter func160,ntmps160;go_wp2_with(first | (go_at_call 190;refine(AB _ _).mono ?_;rw[a4.out];rintro e w1 ⟨rfl,rfl⟩));go_loopw [5,6] (fun z j wr=>∃(o:Int) (i:Nat),z=C Z o/\j=C Z i/\a<=i/\i<=xs.length/\-(i:Int)<=o/\o<=(i:Int)/\Hid (fy w wr)/\Hid (tw (xs.drop i) o i=jA xs a)) (fun _ j _=>xs.length-(Wj j).toNat)
 case atStart=>exact⟨0,a,rfl,rfl,Vz _,fh,fh,fh,fk gF,HE⟩
 case round=>
  obtain⟨o,i,rfl,rfl,a7,am,ao,ap,hG,hE⟩:=hrel;by_cases hlt:i<xs.length
  ·obtain⟨g2,aa,x,ad,ah,ae,ai,a2,_,a3,x0,_,_,_,_,_,_,_⟩:=nA hx hlt
   injection a2 with a2
   injection a2 with e1 e2
   subst e1 e2;have a9:(i:Int)<(xs.length:Int):=fh;have HX:=fk a3;have vx:=za hG.out x0;clear a3 x0;have aq:Vl Z (o+1)=o+1:=iw;have ar:Vl Z (o-1)=o-1:=iw;rcases Ak x with⟨q1,q2⟩ | ⟨q1,q3,q2⟩ | ⟨q1,q3,q2⟩
   ·have HO:=fk q1
    have HD:=fk q2;have h7:(x.fC == 7)=M:=Vw.2 (fun h=>by rw[h] at q1;cases q1);clear q1 q2;by_cases hz:o+1=0
    ·have a0:(o+1 == 0)=H:=V4.2 hz
     exact tZ
    ·have a0:(o+1 == 0)=M:=Vw.2 hz
     have HF:Hid (tw (xs.drop (i+1)) (o+1) (i+1)=jA xs a):=fk (by rw[<-hE.out,Bn HX.out,Vo (by rw[HD.out];omega),show o+mH x=o+1 from by have h:=HD.out;omega]);clear hz;go_wp2_with(first | (go_at_call 190;refine(AB _ _).mono ?_;rw[HO.out];rintro e w1 ⟨rfl,rfl⟩));go_roundw;exact⟨o+1,i+1,io,io,fh,fh,fh,fh,fk (hG.out.trans gF),HF⟩;exact iC
   ·have HO:=fk q1
    have HD:=fk q2;have h7:(x.fC == 7)=H:=V4.2 q3;clear q1 q2 q3;by_cases hz:o-1=0
    ·have a0:(o-1 == 0)=H:=V4.2 hz
     exact tZ
    ·have a0:(o-1 == 0)=M:=Vw.2 hz
     have HF:Hid (tw (xs.drop (i+1)) (o-1) (i+1)=jA xs a):=fk (by rw[<-hE.out,Bn HX.out,Vo (by rw[HD.out];omega),show o+mH x=o-1 from by have h:=HD.out;omega]);clear hz;go_wp2_with(first | (go_at_call 190;refine(AB _ _).mono ?_;rw[HO.out];rintro e w1 ⟨rfl,rfl⟩));go_roundw;exact⟨o-1,i+1,io,io,fh,fh,fh,fh,fk (hG.out.trans gF),HF⟩;exact iC
   ·have HO:=fk q1
    have HD:=fk q2;have h7:(x.fC == 7)=M:=Vw.2 q3;clear q1 q2 q3;by_cases hz:o=0
    ·have a0:(o == 0)=H:=V4.2 hz
     exact tZ
    ·have a0:(o == 0)=M:=Vw.2 hz
     have HF:Hid (tw (xs.drop (i+1)) (o) (i+1)=jA xs a):=fk (by rw[<-hE.out,Bn HX.out,Vo (by rw[HD.out];omega),show o+mH x=o from by have h:=HD.out;omega]);clear hz;go_wp2_with(first | (go_at_call 190;refine(AB _ _).mono ?_;rw[HO.out];rintro e w1 ⟨rfl,rfl⟩));go_roundw;exact⟨o,i+1,io,io,fh,fh,fh,fh,fk (hG.out.trans gF),HF⟩;exact iC
  ·obtain rfl:i=xs.length:=fh
   have a9:¬ ((xs.length:Int)<(xs.length:Int)):=fh;have HF:Hid (jA xs a = -1):=fk (by rw[<-hE.out,VW];rfl);go_wp2_with(fail);exact Vr (v:=C Z (-1)) (by simp[VF,results160,go_sem]) rfl ⟨by rw[HF.out],hG.out.trans gF⟩
theorem EE (h:xs[i]?=F x)(s:G)(j:Nat):qm (xs.drop i) s j=if x.fC=0/\x.fJ=s then (j:Int) else qm (xs.drop (i+1)) s (j+1):=by
 obtain⟨h1,rfl⟩:=Vh.1 h;rw[VB h1];rfl
theorem J0 (h:xs[i]?=F x)(j:Nat):lJ (xs.drop i) j=if x.fC=0 then (j:Int)::lJ (xs.drop (i+1)) (j+1) else lJ (xs.drop (i+1)) (j+1):=by
 obtain⟨h1,rfl⟩:=Vh.1 h;rw[VB h1];rfl
theorem xe {g:Prop} (f:g:=by
  clear h
  go_wp2_with(first | (go_at_call 160;refine(zbF (Ty.up _ hx (hG.out.trans gF)) hl).mono ?_;rw[HE2.out];rintro e2 v2 ⟨rfl,hg2⟩))
  go_roundw
  exact⟨e'+1,n-1,io,fh,fh,fh,fk (hG.out.trans (fy.trans (b:=_) gF (hg2.trans gF))),HF⟩
  exact iC):g:=f
theorem zhN {k:Int} (hx:(zS.sl 99).R w w.heap.size [J A xs.length c] xs)(hl:xs.length<=1099511627776) :
  VK prog 192 #[J A xs.length c,C Z k] w fun e w'=>e=.returned (C Z (kH xs k))/\fy w w':=by
 rcases yy xs k with he | ⟨a,e,rfl,he,a0⟩
 ·have HE:=fk he
  have HF:Hid (kH xs k = -1):=fk (by unfold kH;rw[Vs fh]);clear he;go_enter func192,ntmps192;go_wp2_with(first | (go_at_call 160;refine(zbF hx hl).mono ?_;rw[HE.out];rintro e1 v1 ⟨rfl,a3⟩))
  all_goals exact Vr (v:=C Z (-1)) (by simp[VF,results192,go_sem]) rfl ⟨by rw[HF.out],a3.trans gF⟩
 have HE:=fk he;have ae:=a0.len;have ao:=a0.lt;obtain⟨g,ay,y,ag,ak,ah,al,rfl,av,a5,y0,_,_,_,b0,_,_,_⟩:=nA hx (show a<xs.length from fh);have ap:(a:Int)<(xs.length:Int):=fh;have au:¬ ((e:Int)<0):=fh;have aw:Vl Z ((a:Int)+1)=(a:Int)+1:=iw;by_cases h3:y.fC=3
 rotate_left
 ·have HF:Hid (kH xs a = -1):=fk (by
   unfold kH;rw[he,Vo fh,Vy,a5];simp only
   rw[Vo h3])
  have aa:(y.fC != 3)=H:=by rw[qk,Vp h3];rfl
  clear he a5 h3;go_enter func192,ntmps192;go_wp2_with(first | (go_at_call 160;refine(zbF hx hl).mono ?_;rw[HE.out];rintro e1 v1 ⟨rfl,a3⟩;have u0:=za a3 y0))
  all_goals exact Vr (v:=C Z (-1)) (by simp[VF,results192,go_sem]) rfl ⟨by rw[HF.out],a3.trans gF⟩
 have HS:Hid (qN xs xs.length (a+1) e=kH xs a):=fk (by
  unfold kH;rw[he,Vo fh,Vy,a5];simp only
  rw[Vs h3])
 have aa:(y.fC != 3)=M:=by rw[qk,Vv h3];rfl
 clear he a5 h3;go_enter func192,ntmps192;go_wp2_with(first | (go_at_call 160;refine(zbF hx hl).mono ?_;rw[HE.out];rintro e1 v1 ⟨rfl,a3⟩;have u0:=za a3 y0));go_loopw [6] (fun j wr=>∃(i n:Nat),j=C Z i/\a<i/\i<=e/\e-i<n/\Hid (fy w wr)/\Hid (qN xs n i e=kH xs a)) (fun j _=>e-(Wj j).toNat)
 case atStart=>exact⟨a+1,xs.length,io,fh,fh,fh,fk (a3.trans gF),HS⟩
 case round=>
  obtain⟨i,n,rfl,a2,a8,hn,hG,hE⟩:=hrel;by_cases hlt:i<e
  ·obtain⟨g2,af,x,ai,am,aj,an,a6,_,a4,x0,_,_,_,_,_,_,_⟩:=nA hx (show i<xs.length from fh)
   injection a6 with a6
   injection a6 with e1 e2
   subst e1 e2;have a9:(i:Int)<(e:Int):=fh;have ab:(i:Int)<(xs.length:Int):=fh;have vx:=za hG.out x0;have a1:=Fm a0 n i a2 a8 hn;rw[Vs a9,a4] at a1;simp only at a1;by_cases h35:x.fC=3∨x.fC=5
   ·rw[Vs h35] at a1
    obtain⟨e',a7,ac,ad⟩:=a0.inner a2 hlt a4 (by rcases h35 with h | h <;> rw[h] <;> decide);have HE2:=fk a7.ju;have HF:Hid (qN xs (n-1) (e'+1) e=kH xs a):=fk (by rw[<-hE.out,a1,HE2.out,Vy]);have ax:Vl Z ((e':Int)+1)=(e':Int)+1:=iw;have aq:(e':Int)≥0:=fh;have ar:(0:Int)≥0:=fh;clear a1 a4 x0;rcases h35 with h | h
    ·have q4:(x.fC == 4)=M:=Vw.2 (by rw[h];decide)
     have q3:(x.fC == 3)=H:=V4.2 h;exact xe
    ·have q4:(x.fC == 4)=M:=Vw.2 (by rw[h];decide)
     have q3:(x.fC == 3)=M:=Vw.2 (by rw[h];decide);have q5:(x.fC == 5)=H:=V4.2 h;exact xe
   ·rw[Vo h35] at a1
    have q3:(x.fC == 3)=M:=Vw.2 (fun h=>h35 (.inl h));have q5:(x.fC == 5)=M:=Vw.2 (fun h=>h35 (.inr h));by_cases h4:x.fC=4
    ·rw[Vs h4] at a1
     have HF:Hid (kH xs a=(i:Int)):=fk (by rw[<-hE.out,a1]);have q4:(x.fC == 4)=H:=V4.2 h4;clear a1 a4 x0 h4 h35;go_wp2_with(fail);exact Vr (v:=C Z (i:Int)) (by simp[VF,results192,go_sem]) rfl ⟨by rw[HF.out],hG.out.trans gF⟩
    ·rw[Vo h4] at a1
     have HF:Hid (qN xs (n-1) (i+1) e=kH xs a):=fk (by rw[<-hE.out,a1]);have q4:(x.fC == 4)=M:=Vw.2 h4;clear a1 a4 x0 h4 h35;go_wp2_with(fail);go_roundw;exact⟨i+1,n-1,io,fh,fh,fh,fk (hG.out.trans gF),HF⟩;exact iC
  ·obtain rfl:i=e:=fh
   have a9:¬ ((i:Int)<(i:Int)):=fh;have HF:Hid (kH xs a = -1):=fk (by rw[<-hE.out,Fm a0 n i a2 a8 hn,Vo fh]);go_wp2_with(fail);exact Vr (v:=C Z (-1)) (by simp[VF,results192,go_sem]) rfl ⟨by rw[HF.out],hG.out.trans gF⟩
theorem zdB (hx:(zS.sl 99).R w w.heap.size [J A xs.length c] xs)(hl:xs.length<=1099511627776) :
  VK prog 159 #[J A xs.length c,Q s] w fun e w'=>e=.returned (C Z (lZ xs s))/\fy w w':=by
 go_enter func159,ntmps159;go_wp2_with(fail);go_loopw [5] (fun j wr=>∃(i:Nat),j=C Z i/\i<=xs.length/\Hid (fy w wr)/\Hid (qm (xs.drop i) s i=lZ xs s)) (fun j _=>xs.length-(Wj j).toNat)
 case atStart=>exact⟨0,rfl,Vu _,fk gF,fk rfl⟩
 case round=>
  obtain⟨i,rfl,hi,hG,hE⟩:=hrel;by_cases hlt:i<xs.length
  ·obtain⟨g,a8,x,a3,a5,a4,a6,rfl,a7,a0,x0,x1,x2,x3,b0,b1,_,_⟩:=nA hx hlt
   have a1:(i:Int)<(xs.length:Int):=fh;have v0:=za hG.out x0;have v1:=za hG.out x1;have v2:=za hG.out x2;have v3:=za hG.out x3;have HX:=fk a0;clear a0 x0 x1 x2 x3;by_cases h0:x.fC=0
   ·have q0:(x.fC == 0)=H:=V4.2 h0
    by_cases hs:x.fJ=s
    ·have HF:Hid (lZ xs s=(i:Int)):=fk (by rw[<-hE.out,EE HX.out,Vs ⟨h0,hs⟩])
     have a2:(x.fJ.toList == s.toList)=H:=by rw[mb];simp[hs]
     clear h0 hs;go_wp2_with(fail);exact Vr (v:=C Z (i:Int)) (by simp[VF,results159,go_sem]) rfl ⟨by rw[HF.out],hG.out.trans gF⟩
    ·have a2:(x.fJ.toList == s.toList)=M:=by rw[mb];simp[hs]
     have HF:Hid (qm (xs.drop (i+1)) s (i+1)=lZ xs s):=fk (by rw[<-hE.out,EE HX.out,Vo (fun h=>hs h.2)]);clear h0 hs;go_wp2_with(fail);go_roundw;exact⟨i+1,io,fh,fk (hG.out.trans gF),HF⟩;exact iC
   ·have q0:(x.fC == 0)=M:=Vw.2 h0
    have HF:Hid (qm (xs.drop (i+1)) s (i+1)=lZ xs s):=fk (by rw[<-hE.out,EE HX.out,Vo (fun h=>h0 h.1)]);clear h0;go_wp2_with(fail);go_roundw;exact⟨i+1,io,fh,fk (hG.out.trans gF),HF⟩;exact iC
  ·obtain rfl:i=xs.length:=fh
   have a1:¬ ((xs.length:Int)<(xs.length:Int)):=fh;have HF:Hid (lZ xs s = -1):=fk (by rw[<-hE.out,VW];rfl);go_wp2_with(fail);exact Vr (v:=C Z (-1)) (by simp[VF,results159,go_sem]) rfl ⟨by rw[HF.out],hG.out.trans gF⟩
theorem zb4 (hx:(zS.sl 99).R w w.heap.size [J A xs.length c] xs)(hl:xs.length<=1099511627776) :
  VK prog 106 #[J A xs.length c] w (mm (zn xs) w):=by
 go_enter func106,ntmps106;go_wp2_with(fail);go_loopw [3,4] (fun z j wr=>∃(i:Nat) (A5:N VQ) (n5 c5:Nat) (S:D Nat) (a0:D Int),z=J A5 a0.length c5/\j=C Z i/\i<=xs.length/\a0.length<=i/\Hid (fy w wr)/\Hid (Has (zv.sl 3) wr [J A5 a0.length c5] a0 S)/\Hid (∀ b∈S,w.heap.size<=b)/\Hid (a0++lJ (xs.drop i) i=zn xs)) (fun _ j _=>xs.length-(Wj j).toNat)
 case atStart=>exact⟨0,_,0,0,[w.heap.size],[],rfl,rfl,Vu _,Vu _,fk gF,fk (Has.iK zv (zj (Vj _ _) gF)),fk (fun b hb=>by simp only[Vi] at hb;omega),fk rfl⟩
 case round=>
  obtain⟨i,A5,n5,c5,S,a0,rfl,rfl,hi,a4,hG,hH,hS,hE⟩:=hrel;by_cases hlt:i<xs.length
  ·obtain⟨g,ad,x,a7,a9,a8,aa,rfl,ab,a1,x0,x1,x2,x3,b0,b1,_,_⟩:=nA hx hlt
   have a5:(i:Int)<(xs.length:Int):=fh;have v0:=za hG.out x0;have v1:=za hG.out x1;have v2:=za hG.out x2;have v3:=za hG.out x3;have HX:=fk a1;clear a1 x0 x1 x2 x3;by_cases h0:x.fC=0
   ·have q0:(x.fC == 0)=H:=V4.2 h0
    have HF:Hid (a0++[(i:Int)]++lJ (xs.drop (i+1)) (i+1)=zn xs):=fk (by rw[<-hE.out,J0 HX.out,Vs h0];simp);clear h0;go_wp2_with(first | (refine zG (W1:=w) (L:=a0.length+1) rfl (.tmp 18) (.tmp 20) me zI (S:=S) (hH.out.fH gF) (ec:=[C Z (i:Int)]) (y:=(i:Int)) (B:=0) ⟨rfl,fh,fh⟩ rfl rfl rfl (by intro j u hu;simpa[go_sem] using hu) rfl fh fh ?_;intro A8 c8 W8 S8 a6 a2 a3));go_roundw
    case measure=>exact iC
    case rel=>
     have ac:=hG.out.size;refine⟨i+1,A8,0,c8,S8,a0++[(i:Int)],gm,io,fh,by simp;omega,fk (a6.fH (hG.out.trans gF) hS.out),fk (by rw[Vk];exact a2),fk (fun b hb=>?_),HF⟩;rcases a3 b hb with h | h
     ·exact hS.out b h
     ·(try simp at h);omega
   ·have q0:(x.fC == 0)=M:=Vw.2 h0
    have HF:Hid (a0++lJ (xs.drop (i+1)) (i+1)=zn xs):=fk (by rw[<-hE.out,J0 HX.out,Vo h0]);clear h0;go_wp2_with(fail);go_roundw;exact⟨i+1,A5,0,c5,S,a0,rfl,io,fh,fh,fk (hG.out.trans gF),fk (hH.out.fH gF),hS,HF⟩;exact iC
  ·obtain rfl:i=xs.length:=fh
   have a5:¬ ((xs.length:Int)<(xs.length:Int)):=fh;have HF:Hid (a0=zn xs):=fk (by have h:=hE.out;rw[VW,lJ,Wu] at h;exact h);go_wp2_with(fail);refine Vr (v:=J A5 a0.length c5) (by simp[VF,results106,go_sem]) rfl ?_;rw[<-HF.out];exact⟨A5,c5,S,rfl,hH.out,hS.out,hG.out⟩
def Tb (xs:D G)(w:V)(r:Z9)(w':V):Prop:=∃ A c S,r=.returned (J A xs.length c)/\Has (jB.sl 9) w' [J A xs.length c] xs S/\(∀ b∈S,w.heap.size<=b)/\fy w w'
theorem Eh (h:xs[i]?=F x)(hl:i<e)(acc:D G):qF (xs.drop i) (e-i) acc=qF (xs.drop (i+1)) (e-(i+1)) (tt acc x):=by
 obtain⟨h1,rfl⟩:=Vh.1 h;rw[VB h1,show e-i=(e-(i+1))+1 from fh];rfl
theorem zje {k:Int} (hx:(zS.sl 99).R w w.heap.size [J A xs.length c] xs)(hl:xs.length<=1099511627776)(hs:∀ x∈xs,x.gD.length<=1099511627776/\x.Expr.length<=1099511627776) :
  VK prog 191 #[J A xs.length c,C Z k] w (Tb (zu xs k) w):=by
 rcases yy xs k with he | ⟨a,e,rfl,he,a2⟩
 ·have HE:=fk he
  have HF:Hid (zu xs k = []):=fk (by unfold zu;rw[Vs fh]);clear he;go_enter func191,ntmps191;go_wp2_with(first | (go_at_call 160;refine(zbF hx hl).mono ?_;rw[HE.out];rintro e1 v1 ⟨rfl,a1⟩))
  all_goals (refine Vr (v:=J (F ⟨v1.heap.size,0,I⟩) 0 0) (by simp[VF,results191,go_sem]) rfl ?_;exact⟨F ⟨v1.heap.size,0,I⟩,0,[v1.heap.size],by rw[HF.out];rfl,by rw[HF.out];exact Has.iK jB (Vj _ _),fun b hb=>(by simp only[Vi] at hb;subst hb;exact a1.size),a1.trans gF⟩)
 have HE:=fk he;have al:=a2.len;have az:=a2.lt;obtain⟨g,aF,y,ap,av,aq,aw,rfl,a8,a4,y0,y1,y2,y3,b0,_,h2,_⟩:=nA hx (show a<xs.length from fh);have aA:(a:Int)<(xs.length:Int):=fh;have aB:¬ ((e:Int)<0):=fh;have hy:=(hs y (Vx a4)).1;by_cases h0:y.fC=0
 rotate_left
 ·have HF:Hid (zu xs a = []):=fk (by
   unfold zu;rw[he,Vo fh,Vy,a4];simp only
   rw[Vo h0])
  have aa:(y.fC != 0)=H:=by rw[qk,Vp h0];rfl
  clear he a4 h0;go_enter func191,ntmps191;go_wp2_with(first | (go_at_call 160;refine(zbF hx hl).mono ?_;rw[HE.out];rintro e1 v1 ⟨rfl,a1⟩;have u0:=za a1 y0;have u2:=za a1 y2;have ah:=Vn a8 a1.size))
  all_goals (refine Vr (v:=J (F ⟨v1.heap.size,0,I⟩) 0 0) (by simp[VF,results191,go_sem]) rfl ?_;exact⟨F ⟨v1.heap.size,0,I⟩,0,[v1.heap.size],by rw[HF.out];rfl,by rw[HF.out];exact Has.iK jB (Vj _ _),fun b hb=>(by simp only[Vi] at hb;subst hb;exact a1.size),a1.trans gF⟩)
 have HS:Hid (qF (xs.drop a) (e-a) y.gD=zu xs a):=fk (by
  unfold zu;rw[he,Vo fh,Vy,Vy,a4];simp only
  rw[Vs h0])
 have aa:(y.fC != 0)=M:=by rw[qk,Vv h0];rfl
 clear he a4 h0;go_enter func191,ntmps191;go_wp2_with(first | (go_at_call 160;refine(zbF hx hl).mono ?_;rw[HE.out];rintro e1 v1 ⟨rfl,a1⟩;have u0:=za a1 y0;have u2:=za a1 y2;have ah:=Vn a8 a1.size) | (at_builtin;refine yZ (L:=y.gD.length) rfl (.tmp 22) (.tmp 27) vu ng (S:=[v1.heap.size]) (Has.iK jB (Vj _ _)) (Ty.up _ h2 (a1.trans gF)) rfl rfl rfl (VJ _).symm fh fh ?_;intro A7 c7 W7 S7 a6 a7 ac));rw[Wo] at a7;have aD:=a1.size;have ag:fy w W7:=a6.fH (a1.trans gF) (fun b hb=>by simp at hb;omega);go_loopw [6,7] (fun z j wr=>∃(i:Nat) (A5:N VQ) (c5:Nat) (S:D Nat) (a0:D G),z=J A5 a0.length c5/\j=C Z i/\a<=i/\i<=e/\a0.length<=y.gD.length+(i-a)/\Hid (fy w wr)/\Hid (Has (jB.sl 9) wr [J A5 a0.length c5] a0 S)/\Hid (∀ b∈S,w.heap.size<=b)/\Hid (qF (xs.drop i) (e-i) a0=zu xs a)) (fun _ j _=>e-(Wj j).toNat)
 case atStart=>exact⟨a,A7,c7,S7,y.gD,rfl,rfl,Vz _,fh,fh,fk (ag.trans gF),fk (a7.fH gF),fk (fun b hb=>by rcases ac b hb with h | h;(simp at h;omega);(simp at h;omega)),HS⟩
 case round=>
  obtain⟨i,A5,c5,S,a0,rfl,rfl,af,aC,ae,hG,hH,hS,hE⟩:=hrel;by_cases hlt:i<e
  ·obtain⟨g2,ao,x,ar,ax,au,ay,a5,_,a9,x0,x1,_,_,_,b1,_,_⟩:=nA hx (show i<xs.length from fh)
   injection a5 with a5
   injection a5 with e1 e2
   subst e1 e2;have aj:(i:Int)<(e:Int):=fh;have ai:(i:Int)<(xs.length:Int):=fh;have v0:=za hG.out x0;have v1:=za hG.out x1;have HX:=fk a9;clear a9 x0 x1;by_cases h1:x.fC=1
   ·have q1:(x.fC == 1)=H:=V4.2 h1
    rcases Wm (ld a0 x.fJ) with hh | hh
    ·have ak:¬ (nC a0 x.fJ 0<0):=fun h=>by have h1:=CV x.fJ a0;rw[show (a0.any fun y=>decide (y=x.fJ))=H from hh] at h1;have h2:=XH h1;omega
     have HF:Hid (qF (xs.drop (i+1)) (e-(i+1)) a0=zu xs a):=fk (by rw[<-hE.out,Eh HX.out (show i<e from hlt),tt,Vo (fun h=>by rw[hh] at h;cases h.2)]);clear hh h1;go_wp2_with(first | (go_at_call 193;refine(zge (xs:=a0) (hH.out.fH gF).read fh).mono ?_;rintro e2 v2 ⟨rfl,a3⟩;have t1:=za (fy.trans (b:=_) gF a3) v1));go_roundw;exact⟨i+1,A5,c5,S,a0,rfl,io,fh,fh,fh,fk (hG.out.trans (fy.trans (b:=_) gF (a3.trans gF))),fk (hH.out.fH (fy.trans (b:=_) gF (a3.trans gF))),hS,HF⟩;exact iC
    ·have ak:nC a0 x.fJ 0<0:=by have h1:=CV x.fJ a0;rw[show (a0.any fun y=>decide (y=x.fJ))=M from hh] at h1;have h2:=YG h1;omega
     have HF:Hid (qF (xs.drop (i+1)) (e-(i+1)) (a0++[x.fJ])=zu xs a):=fk (by rw[<-hE.out,Eh HX.out (show i<e from hlt),tt,Vs ⟨h1,hh⟩]);clear hh h1;go_wp2_with(first | (go_at_call 193;refine(zge (xs:=a0) (hH.out.fH gF).read fh).mono ?_;rintro e2 v2 ⟨rfl,a3⟩;have t1:=za (fy.trans (b:=_) gF a3) v1) | (refine zG (W1:=w) (L:=a0.length+1) rfl (.tmp 51) (.tmp 57) vu ng (S:=S) (hH.out.fH (fy.trans (b:=_) gF (a3.trans gF))) (ec:=[Q x.fJ]) (y:=x.fJ) (B:=0) ⟨rfl,b1⟩ rfl rfl rfl (by intro j u hu;simpa[go_sem] using hu) rfl fh fh ?_;intro A8 c8 W8 S8 am ab ad));go_roundw
     case measure=>exact iC
     case rel=>
      have aE:=hG.out.size;have an:=a3.size;refine⟨i+1,A8,c8,S8,a0++[x.fJ],gm,io,fh,fh,by simp;omega,fk (am.fH (hG.out.trans (fy.trans (b:=_) gF (a3.trans gF))) hS.out),fk (by rw[Vk];exact ab),fk (fun b hb=>?_),HF⟩;rcases ad b hb with h | h
      ·exact hS.out b h
      ·(try simp at h);(try simp at an);omega
   ·have q1:(x.fC == 1)=M:=Vw.2 h1
    have HF:Hid (qF (xs.drop (i+1)) (e-(i+1)) a0=zu xs a):=fk (by rw[<-hE.out,Eh HX.out (show i<e from hlt),tt,Vo (fun h=>h1 h.1)]);clear h1;go_wp2_with(fail);go_roundw;exact⟨i+1,A5,c5,S,a0,rfl,io,fh,fh,fh,fk (hG.out.trans gF),fk (hH.out.fH gF),hS,HF⟩;exact iC
  ·obtain rfl:i=e:=fh
   have aj:¬ ((i:Int)<(i:Int)):=fh;have HF:Hid (a0=zu xs a):=fk (by have h:=hE.out;rw[Ws] at h;rw[<-h];cases xs.drop i <;> rfl);go_wp2_with(fail);refine Vr (v:=J A5 a0.length c5) (by simp[VF,results191,go_sem]) rfl ?_;rw[<-HF.out];exact⟨A5,c5,S,rfl,hH.out,hS.out,hG.out⟩
theorem QB (hX:xs[i]?=F x)(hD:d=zM xs i-zM xs (k+1))(h0:x.fC≠0)(h4:x.fC≠4):∃ nd,nd=zM xs (i+1)-zM xs (k+1)/\
  (((x.fC == 3)=H/\(x.fC == 5)=M/\(x.fC == 7)=M/\d+1=nd)∨((x.fC == 3)=M/\(x.fC == 5)=H/\(x.fC == 7)=M/\d+1=nd)∨((x.fC == 3)=M/\(x.fC == 5)=M/\(x.fC == 7)=H/\d-1=nd)∨((x.fC == 3)=M/\(x.fC == 5)=M/\(x.fC == 7)=M/\d=nd)):=by
 have h1:=uP hX;refine⟨_,rfl,?_⟩;by_cases h3:x.fC=3
 ·have h2:mH x=1:=by unfold mH;rw[h3];rfl
  exact .inl ⟨by rw[h3];rfl,by rw[h3];rfl,by rw[h3];rfl,fh⟩
 by_cases h5:x.fC=5
 ·have h2:mH x=1:=by unfold mH;rw[h5];rfl
  exact .inr (.inl ⟨by rw[h5];rfl,by rw[h5];rfl,by rw[h5];rfl,fh⟩)
 by_cases h7:x.fC=7
 ·have h2:mH x = -1:=by unfold mH;rw[h7];rfl
  exact .inr (.inr (.inl ⟨by rw[h7];rfl,by rw[h7];rfl,by rw[h7];rfl,fh⟩))
 ·have h2:mH x=0:=by unfold mH pG;rw[Vp h0,Vp h3,Vp h5,Vo gv,Vo h7]
  exact .inr (.inr (.inr ⟨Vw.2 h3,Vw.2 h5,Vw.2 h7,fh⟩))
theorem NV (h:x.fC=0):pB p L k i x=M:=by unfold pB;rw[Vv h];rfl
theorem Gr (h:4<zM p (i+1)-zM p (k+1)):pB p L k i x=M:=by unfold pB;rw[Vp (show ¬ (zM p (i+1)-zM p (k+1)<=4) from fh)];simp
theorem DV (h:zU p L x.Expr=M):pB p L k i x=M:=by unfold pB;rw[h];simp
theorem MV (h4:x.fC=4)(h:rZ p k i=M):pB p L k i x=M:=by unfold pB;rw[Vs h4,h];simp
theorem Hd (h0:x.fC≠0)(h4:x.fC=4->rZ p k i=H)(hd:zM p (i+1)-zM p (k+1)<=4)(h:zU p L x.Expr=H):pB p L k i x=H:=by
 unfold pB;rw[h,Vv hd,Vp h0];by_cases h:x.fC=4
 ·rw[Vs h,h4 h];rfl
 ·rw[Vo h];rfl
theorem ze {l:D iq} {t:Nat} {y:iq} (h:l[t]?=F y)(f:iq->Bool):(l.drop t).all f=(f y && (l.drop (t+1)).all f):=by
 obtain⟨h1,rfl⟩:=Vh.1 h;rw[VB h1];rfl
theorem PA (hh:ld L s=H):¬ (nC L s 0<0):=fun h=>by
 have h1:=CV s L;rw[show (L.any fun y=>decide (y=s))=H from hh] at h1;have h2:=XH h1;omega
theorem RT (hh:ld L s=M):nC L s 0<0:=by
 have h1:=CV s L;rw[show (L.any fun y=>decide (y=s))=M from hh] at h1;have h2:=YG h1;omega
theorem GL (s:G):∀(l:D fB)(j:Nat),qm l s j = -1∨∃(f:Nat)(z:fB),qm l s j=((j+f:Nat):Int)/\l[f]?=F z
 | [],_=>.inl rfl
 | x::r,j=>by
  unfold qm;split
  ·exact .inr ⟨0,x,rfl,rfl⟩
  ·rcases GL s r (j+1) with h | ⟨f,z,h1,h2⟩
   ·exact .inl h
   ·exact .inr ⟨f+1,z,by rw[h1];congr 1;omega,h2⟩
theorem Mz (p:D fB)(s:G):lZ p s = -1∨∃(f:Nat)(z:fB),lZ p s=(f:Int)/\p[f]?=F z:=by
 rcases GL s p 0 with h | ⟨f,z,h1,h2⟩
 ·exact .inl h
 ·exact .inr ⟨f,z,by rw[lZ,h1,VJ],h2⟩
theorem Ce {g:Prop} (f:g:=by
  have HY:=fk hyk
  clear hyk
  subst hA5
  have w0:=za hGt.out y0
  have w1:=za hGt.out y1
  have w2:=za hGt.out y2
  have hg5w:=Vn hg5 hGt.out.size
  have hgw:=Vn hgb hGt.out.size
  have htn:(t:Int)<(x.Expr.length:Int):=fh
  by_cases k1:y.fC=1
  ·have q1:(y.fC == 1)=H:=V4.2 k1
   have q7:(y.fC == 7)=M:=Vw.2 (by rw[k1];decide)
   rcases Wm (ld L y.fJ) with hh | hh
   ·have hix:¬ (nC L y.fJ 0<0):=PA hh
    have HT2:Hid ((x.Expr.drop (t+1)).all (mK xs L)=zU xs L x.Expr):=fk (by rw[<-hT.out,ze HY.out,mK,Vs k1,hh];rfl)
    clear hh k1
    go_wp2_with(first | (go_at_call 193;refine(zge (xs:=L) (Ty.up _ hHw.out (hGt.out.trans gF)) hLb).mono ?_;rintro e2 v2 ⟨rfl,hg2⟩;obtain⟨bx0,bx1,bx2,_⟩:=vw (zj (Vj wr (U #[C Z y.fC,C Z y.iY,Q y.fJ] 160)) (fy.trans (b:=_) gF hg2))))
    go_roundw
    exact⟨t+1,io,fh,fk (hGt.out.trans (fy.trans (b:=_) gF (hg2.trans gF))),HT2⟩
    exact iC
   ·have hix:nC L y.fJ 0<0:=RT hh
    have hfalse:mK xs L y=M:=by rw[mK,Vs k1,hh]
    clear hh k1
    have HF2:Hid (oy xs k e=M):=fk (by rw[HBO.out,<-hE.out,uR HX.out hlt,DV (by rw[<-hT.out,ze HY.out,hfalse];rfl)];simp)
    clear hfalse
    go_wp2_with(first | (go_at_call 193;refine(zge (xs:=L) (Ty.up _ hHw.out (hGt.out.trans gF)) hLb).mono ?_;rintro e2 v2 ⟨rfl,hg2⟩;obtain⟨bx0,bx1,bx2,_⟩:=vw (zj (Vj wr (U #[C Z y.fC,C Z y.iY,Q y.fJ] 160)) (fy.trans (b:=_) gF hg2))))
    all_goals exact Vr (v:=X M) (by simp[VF,results161,go_sem]) rfl ⟨by rw[HF2.out],hg1.trans (hGt.out.trans (fy.trans (b:=_) gF (hg2.trans gF)))⟩
  ·have q1:(y.fC == 1)=M:=Vw.2 k1
   by_cases k7:y.fC=7
   ·have q7:(y.fC == 7)=H:=V4.2 k7
    rcases Mz xs y.fJ with hff | ⟨f,z,hff,hz⟩
    ·have HFF:=fk hff
     have hfalse:mK xs L y=M:=by rw[mK,Vo k1,Vs k7,hff];rfl
     have HF2:Hid (oy xs k e=M):=fk (by rw[HBO.out,<-hE.out,uR HX.out hlt,DV (by rw[<-hT.out,ze HY.out,hfalse];rfl)];simp)
     clear hff k1 k7 hfalse
     go_wp2_with(first | (go_at_call 159;refine(zdB (Ty.up _ hx (hg1.trans (hGt.out.trans gF))) hl).mono ?_;rw[HFF.out];rintro e2 v2 ⟨rfl,hg2⟩;obtain⟨bx0,bx1,bx2,_⟩:=vw (zj (Vj wr (U #[C Z y.fC,C Z y.iY,Q y.fJ] 160)) (fy.trans (b:=_) gF hg2))))
     go_quiet (fail)
     go_wp2_with(fail)
     all_goals exact Vr (v:=X M) (by simp[VF,results161,go_sem]) rfl ⟨by rw[HF2.out],hg1.trans (hGt.out.trans (fy.trans (b:=_) gF (hg2.trans gF)))⟩
    ·obtain⟨g6,off6,z',A60,c60,A61,c61,hA6,_,hz',z0,z1,z2,z3,_⟩:=nA (Ty.up _ hx hg1) (Vh.1 hz).1
     obtain rfl:z'=z:=by rw[hz] at hz';injection hz' with h;exact h.symm
     injection hA6 with hA6
     injection hA6 with e1 e2
     subst e1 e2
     have wz:=za hGt.out z2
     have hfl:f<xs.length:=(Vh.1 hz).1
     have hfi:(f:Int)<(xs.length:Int):=fh
     have hf0:¬ ((f:Int)<0):=fh
     have HFF:=fk hff
     by_cases har:(z'.gD.length:Int)=y.iY
     ·have harb:((z'.gD.length:Int) != y.iY)=M:=by rw[qk,Vv har];rfl
      have HT2:Hid ((x.Expr.drop (t+1)).all (mK xs L)=zU xs L x.Expr):=fk (by rw[<-hT.out,ze HY.out,mK,Vo k1,Vs k7,hff,Vo hf0,Vy,hz];simp only;rw[Vv har];rfl)
      clear hff hz hz' k1 k7 har
      go_wp2_with(first | (go_at_call 159;refine(zdB (Ty.up _ hx (hg1.trans (hGt.out.trans gF))) hl).mono ?_;rw[HFF.out];rintro e2 v2 ⟨rfl,hg2⟩;obtain⟨bx0,bx1,bx2,_⟩:=vw (zj (Vj wr (U #[C Z y.fC,C Z y.iY,Q y.fJ] 160)) (fy.trans (b:=_) gF hg2));have ff2:=za (fy.trans (b:=_) gF hg2) wz))
      go_quiet (fail)
      go_wp2_with(fail)
      go_roundw
      exact⟨t+1,io,fh,fk (hGt.out.trans (fy.trans (b:=_) gF (hg2.trans gF))),HT2⟩
      exact iC
     ·have harb:((z'.gD.length:Int) != y.iY)=H:=by rw[qk,Vp har];rfl
      have hfalse:mK xs L y=M:=by rw[mK,Vo k1,Vs k7,hff,Vo hf0,Vy,hz];simp only;rw[Vp har]
      have HF2:Hid (oy xs k e=M):=fk (by rw[HBO.out,<-hE.out,uR HX.out hlt,DV (by rw[<-hT.out,ze HY.out,hfalse];rfl)];simp)
      clear hff hz hz' k1 k7 har hfalse
      go_wp2_with(first | (go_at_call 159;refine(zdB (Ty.up _ hx (hg1.trans (hGt.out.trans gF))) hl).mono ?_;rw[HFF.out];rintro e2 v2 ⟨rfl,hg2⟩;obtain⟨bx0,bx1,bx2,_⟩:=vw (zj (Vj wr (U #[C Z y.fC,C Z y.iY,Q y.fJ] 160)) (fy.trans (b:=_) gF hg2));have ff2:=za (fy.trans (b:=_) gF hg2) wz))
      go_quiet (fail)
      go_wp2_with(fail)
      all_goals exact Vr (v:=X M) (by simp[VF,results161,go_sem]) rfl ⟨by rw[HF2.out],hg1.trans (hGt.out.trans (fy.trans (b:=_) gF (hg2.trans gF)))⟩
   ·have q7:(y.fC == 7)=M:=Vw.2 k7
    have HT2:Hid ((x.Expr.drop (t+1)).all (mK xs L)=zU xs L x.Expr):=fk (by rw[<-hT.out,ze HY.out,mK,Vo k1,Vo k7];rfl)
    clear k1 k7
    go_wp2_with(fail)
    go_roundw
    exact⟨t+1,io,fh,fk (hGt.out.trans gF),HT2⟩
    exact iC):g:=f
theorem xI {g:Prop} (f:g:=by
  go_wp2_with(fail)
  all_goals exact Vr (v:=X M) (by simp[VF,results161,go_sem]) rfl ⟨by rw[HF.out],hg1.trans (hGi.out.trans gF)⟩):g:=f
theorem xL {g:Prop} (f:g:=by
  go_wp2_with(fail)
  all_goals exact Vr (v:=X M) (by simp[VF,results161,go_sem]) rfl ⟨by rw[HF.out],hg1.trans (hG.out.trans gF)⟩):g:=f
theorem zwn (hx:(zS.sl 99).R w w.heap.size [J A xs.length c] xs)(hl:xs.length<=1099511627776)(hs:∀ x∈xs,x.gD.length<=1099511627776/\x.Expr.length<=1099511627776)(hends:gZ xs k e) :
  VK prog 161 #[J A xs.length c,C Z k,C Z e] w fun r w'=>r=.returned (X (oy xs k e))/\fy w w':=by
 have ak:=hends.len;have av:=hends.lt;obtain⟨L,hL⟩:∃ L,zu xs k=L:=⟨_,rfl⟩
 have a6:=zje (k:=(k:Int)) hx hl hs;rw[hL] at a6;obtain⟨B,hB⟩:∃ B,tv xs L k (xs.drop (k+1)) (e-(k+1)) (k+1)=B:=⟨_,rfl⟩
 have a1:Hid (oy xs k e=(decide (L.length<=8) && B)):=fk (by unfold oy;rw[hL,hB]);have HB:=fk hB;clear hL hB;by_cases h8:8<L.length
 ·have HF:Hid (oy xs k e=M):=fk (by rw[a1.out,Vp fh];rfl)
  have af:(L.length:Int) > 8:=fh;clear h8;go_enter func161,ntmps161;go_wp2_with(first | (go_at_call 191;refine a6.mono ?_;rintro e1 v1 ⟨AL,cL,SL,rfl,ab,ag,hg1⟩))
  all_goals exact Vr (v:=X M) (by simp[VF,results161,go_sem]) rfl ⟨by rw[HF.out],hg1.trans gF⟩
 have HBO:Hid (oy xs k e=B):=fk (by rw[a1.out,Vv fh];rfl);have hLb:L.length<=8796093022208:=fh;have af:¬ ((L.length:Int) > 8):=fh;have ap:¬ (8<(L.length:Int)):=fh;have aB:Vl Z ((k:Int)+1)=(k:Int)+1:=iw;clear h8;go_enter func161,ntmps161;go_wp2_with(first | (go_at_call 191;refine a6.mono ?_;rintro e1 v1 ⟨AL,cL,SL,rfl,ab,ag,hg1⟩));have hHw:Hid ((jB.sl 9).R v1 v1.heap.size [J AL L.length cL] L):=fk ab.read;go_loopw [8,9] (fun z j wr=>∃(i:Nat) (d:Int),z=C Z d/\j=C Z i/\k<i/\i<=e/\-(i:Int)<=d/\d<=(i:Int)/\Hid (d=zM xs i-zM xs (k+1))/\Hid (fy v1 wr)/\Hid (tv xs L k (xs.drop i) (e-i) i=B)) (fun _ j _=>e-(Wj j).toNat)
 case atStart=>exact⟨k+1,0,rfl,io,fh,fh,fh,fh,fk fh,fk gF,HB⟩
 case round=>
  obtain⟨i,d,rfl,rfl,aw,au,aq,ar,hD,hG,hE⟩:=hrel;by_cases hlt:i<e
  ·obtain⟨g,aD,x,al,an,am,ao,rfl,hgb,a9,x0,x1,x2,x3,b0,b1,_,h3⟩:=nA (Ty.up _ hx hg1) (show i<xs.length from fh)
   have ai:(i:Int)<(e:Int):=fh;have ah:(i:Int)<(xs.length:Int):=fh;have v0:=za hG.out x0;have v3:=za hG.out x3;have HX:=fk a9;have aC:=(hs x (Vx a9)).2;have hgw:=Vn hgb hG.out.size;clear a9;have az:Vl Z (d+1)=d+1:=iw;have aA:Vl Z (d-1)=d-1:=iw;by_cases hk0:x.fC=0
   ·have r0:(x.fC == 0)=H:=V4.2 hk0
    have HF:Hid (oy xs k e=M):=fk (by rw[HBO.out,<-hE.out,uR HX.out hlt,NV hk0];rfl);clear hk0;exact xL
   by_cases hk:x.fC=4
   ·have r0:(x.fC == 0)=M:=Vw.2 (by rw[hk];decide)
    have r3:(x.fC == 3)=M:=Vw.2 (by rw[hk];decide);have r5:(x.fC == 5)=M:=Vw.2 (by rw[hk];decide);have r7:(x.fC == 7)=M:=Vw.2 (by rw[hk];decide);have r4:(x.fC == 4)=H:=V4.2 hk;have HN:Hid (d=zM xs (i+1)-zM xs (k+1)):=fk (by have h1:=uP HX.out;have h2:mH x=0:=(by unfold mH;rw[hk];rfl);have h3:=hD.out;omega);have a4:Hid (x.fC≠0):=fk (by rw[hk];decide);have ad:=fk hk;clear hk hk0;go_wp2_with(fail);go_loopw [10,11] (fun z j wi=>∃(b:Bool) (q:Nat),z=X b/\j=C Z q/\k<=q/\q<=i/\Hid (fy v1 wi)/\Hid ((b || (Yj q (i-q)).any fun j=>decide (kH xs j=i))=rZ xs k i)) (fun _ j _=>i-(Wj j).toNat)
    case atStart=>exact⟨M,k,rfl,rfl,Vz _,fh,fk (hG.out.trans gF),fk rfl⟩
    case round=>
     obtain⟨b,q,rfl,rfl,ax,ay,hGi,a2⟩:=hrel;by_cases hq:q<i
     ·have a8:(q:Int)<(i:Int):=fh
      cases b with
      | true=>
       have HF:Hid ((H || (Yj (q+1) (i-(q+1))).any fun j=>decide (kH xs j=i))=rZ xs k i):=fk (by rw[<-a2.out];rfl);go_wp2_with(fail);go_roundw;exact⟨H,q+1,io,io,fh,fh,fk (hGi.out.trans gF),HF⟩;exact iC
      | false=>
       obtain⟨r,hr⟩:∃ r,kH xs q=r:=⟨_,rfl⟩
       have HR:=fk hr
       have HF:Hid (((r == (i:Int)) || (Yj (q+1) (i-(q+1))).any fun j=>decide (kH xs j=i))=rZ xs k i):=fk (by
        rw[<-a2.out,show i-q=(i-(q+1))+1 from fh,List.range'_succ,List.any_cons,hr,Dv]
        rfl)
       clear hr;go_wp2_with(first | (go_at_call 192;refine(zhN (Ty.up _ hx (hg1.trans (hGi.out.trans gF))) hl).mono ?_;rw[HR.out];rintro e2 v2 ⟨rfl,hg2⟩));go_roundw;exact⟨(r == (i:Int)),q+1,io,io,fh,fh,fk (hGi.out.trans (fy.trans (b:=_) gF (hg2.trans gF))),HF⟩;exact iC
     ·obtain rfl:q=i:=fh
      have a8:¬ ((q:Int)<(q:Int)):=fh;cases b with
      | false=>
       have HF:Hid (oy xs k e=M):=fk (by rw[HBO.out,<-hE.out,uR HX.out hlt,MV ad.out (by rw[<-a2.out,Ws];rfl)];rfl);exact xI
      | true=>
       have a0:Hid (x.fC=4->rZ xs k q=H):=fk (fun _=>by rw[<-a2.out];rfl);by_cases h4:4<d
       ·have HF:Hid (oy xs k e=M):=fk (by rw[HBO.out,<-hE.out,uR HX.out hlt,Gr (by rw[<-HN.out];omega)];simp)
        have a5:d > 4:=h4;clear h4;exact xI
       have a5:¬ (d > 4):=h4;have ae:¬ (4<d):=h4;clear h4;go_wp2_with(fail);go_loopw [12] (fun j wt=>∃(t:Nat),j=C Z t/\t<=x.Expr.length/\Hid (fy v1 wt)/\Hid ((x.Expr.drop t).all (mK xs L)=zU xs L x.Expr)) (fun j _=>x.Expr.length-(Wj j).toNat)
       case atStart=>exact⟨0,rfl,Vu _,fk (hGi.out.trans gF),fk rfl⟩
       case round=>
        obtain⟨t,rfl,ht,hGt,hT⟩:=hrel;have w3:=za hGt.out x3;by_cases htl:t<x.Expr.length
        ·obtain⟨g5,aa,y,hA5,hg5,hyk,y0,y1,y2,yk,yn,ys⟩:=vZ h3 htl
         exact Ce
        ·obtain rfl:t=x.Expr.length:=fh
         have htn:¬ ((x.Expr.length:Int)<(x.Expr.length:Int)):=fh
         have a3:Hid (tv xs L k (xs.drop (q+1)) (e-(q+1)) (q+1)=B):=fk (by
          rw[<-hE.out,uR HX.out hlt,Hd a4.out a0.out (by rw[<-HN.out];omega) (by rw[<-hT.out,VW];rfl)]
          rfl)
         go_wp2_with(fail);go_roundw;exact⟨q+1,d,io,io,fh,fh,fh,fh,HN,fk (hGt.out.trans gF),a3⟩;exact iC
   obtain⟨nd,ac,aj⟩:=QB HX.out hD.out hk0 hk;have r0:(x.fC == 0)=M:=Vw.2 hk0;have r4:(x.fC == 4)=M:=Vw.2 hk;have HN:=fk ac;have a4:=fk hk0;have a0:Hid (x.fC=4->rZ xs k i=H):=fk (fun h=>absurd h hk);clear hk0 hk ac;rcases aj with⟨r3,r5,r7,a7⟩ | ⟨r3,r5,r7,a7⟩ | ⟨r3,r5,r7,a7⟩ | ⟨r3,r5,r7,a7⟩
   all_goals
    by_cases h4:4<nd
    ·have HF:Hid (oy xs k e=M):=fk (by rw[HBO.out,<-hE.out,uR HX.out hlt,Gr (by rw[<-HN.out];omega)];simp)
     have a5:nd > 4:=h4;clear h4;exact xL
    have a5:¬ (nd > 4):=h4
    have ae:¬ (4<nd):=h4
    clear h4
    go_wp2_with(fail)
    go_loopw [12] (fun j wt=>∃(t:Nat),j=C Z t/\t<=x.Expr.length/\Hid (fy v1 wt)/\Hid ((x.Expr.drop t).all (mK xs L)=zU xs L x.Expr)) (fun j _=>x.Expr.length-(Wj j).toNat)
    case atStart=>exact⟨0,rfl,Vu _,fk (hG.out.trans gF),fk rfl⟩
    case round=>
     obtain⟨t,rfl,ht,hGt,hT⟩:=hrel;have w3:=za hGt.out x3;by_cases htl:t<x.Expr.length
     ·obtain⟨g5,aa,y,hA5,hg5,hyk,y0,y1,y2,yk,yn,ys⟩:=vZ h3 htl
      exact Ce
     ·obtain rfl:t=x.Expr.length:=fh
      have htn:¬ ((x.Expr.length:Int)<(x.Expr.length:Int)):=fh
      have a3:Hid (tv xs L k (xs.drop (i+1)) (e-(i+1)) (i+1)=B):=fk (by
       rw[<-hE.out,uR HX.out hlt,Hd a4.out a0.out (by rw[<-HN.out];omega) (by rw[<-hT.out,VW];rfl)]
       rfl)
      go_wp2_with(fail);go_roundw;exact⟨i+1,nd,io,io,fh,fh,fh,fh,HN,fk (hGt.out.trans gF),a3⟩;exact iC
  ·obtain rfl:i=e:=fh
   have ai:¬ ((i:Int)<(i:Int)):=fh;have HF:Hid (oy xs k i=H):=fk (by rw[HBO.out,<-hE.out,Ws];cases xs.drop i <;> rfl);go_wp2_with(fail);exact Vr (v:=X H) (by simp[VF,results161,go_sem]) rfl ⟨by rw[HF.out],hg1.trans (hG.out.trans gF)⟩
theorem Jt:vp.toList = [109,97,105,110]:=by unfold vp;simp[go_sem]
theorem Rw (h:60<p.length):zA p=M:=by unfold zA;rw[Vp fh];rfl
theorem CY (h:r8 p=M):zA p=M:=by unfold zA;rw[h];simp
theorem Rv (h:6<(zn p).length):zA p=M:=by unfold zA;rw[Vp (show ¬ ((zn p).length<=6) from fh)];simp
theorem I1 (h:qL p p 0=M):zA p=M:=by unfold zA;rw[h];simp
theorem Rx (h1:p.length<=60)(h2:r8 p=H)(h3:(zn p).length<=6)(h4:qL p p 0=H):zA p=qQ p p.length 0:=by unfold zA;rw[Vv h1,h2,Vv h3,h4];simp
theorem RP (h:p[0]?=F x)(h0:x.fC≠0):r8 p=M:=by unfold r8;rw[h];simp only;rw[Vp h0];rfl
theorem RQ (h:p[0]?=F x)(h0:x.fJ≠vp):r8 p=M:=by unfold r8;rw[h];simp only;rw[Vp h0];simp
theorem RR (h:p[0]?=F x)(h0:x.gD.length≠0):r8 p=M:=by unfold r8;rw[h];simp only;rw[Vp h0];simp
theorem RS (h:p[0]?=F x)(h0:x.fC=0)(h1:x.fJ=vp)(h2:x.gD.length=0):r8 p=H:=by unfold r8;rw[h];simp only;rw[Vv h0,Vv h1,Vv h2];rfl
theorem PV (h:p[k]?=F x)(hn:p.length<=n+k):qQ p n k=(decide (x.fC=0) && (decide (0<=jA p k) && (oy p k (jA p k).toNat && qQ p (n-1) ((jA p k).toNat+1)))):=by
 have hl:=(Vh.1 h).1
 match n,hn with
 | 0,hn=>omega
 | n+1,hn=>
  rw[qQ,h];rfl
theorem O9 (h:p.length<=k):qQ p n k=H:=by
 match n with
 | 0=>rfl
 | n+1=>rw[qQ,XK h]
theorem pY {g:Prop} (f:g:=by
  go_enter func102,ntmps102
  go_wp2_with(fail)
  all_goals exact Vr (v:=X M) (by simp[VF,results102,go_sem]) rfl ⟨by rw[HF.out],gF⟩):g:=f
theorem wQ {g:Prop} (f:g:=by
  go_wp2_with(first | (go_at_call 160;refine(zbF (Ty.up _ hx (hG.out.trans gF)) hl).mono ?_;rw[HE.out];rintro e2 v2 ⟨rfl,hg2⟩;have u0:=za (hG.out.trans (fy.trans (b:=_) gF hg2)) x0))
  all_goals exact Vr (v:=X M) (by simp[VF,results102,go_sem]) rfl ⟨by rw[HF.out],hG.out.trans (fy.trans (b:=_) gF (hg2.trans gF))⟩):g:=f
theorem zaU (hx:(zS.sl 99).R w w.heap.size [J A xs.length c] xs)(hl:xs.length<=1099511627776)(hs:∀ x∈xs,x.gD.length<=1099511627776/\x.Expr.length<=1099511627776) :
  VK prog 102 #[J A xs.length c] w fun r w'=>r=.returned (X (zA xs))/\fy w w':=by
 by_cases h00:xs.length=0
 ·have HF:Hid (zA xs=M):=fk (CY (by unfold r8;rw[XK fh]))
  have aq:((xs.length:Int) == 0)=H:=V4.2 fh;clear h00;exact pY
 have aq:((xs.length:Int) == 0)=M:=Vw.2 fh;by_cases h60:60<xs.length
 ·have HF:Hid (zA xs=M):=fk (Rw h60)
  have ac:(xs.length:Int) > 60:=fh;clear h00 h60;exact pY
 have ac:¬ ((xs.length:Int) > 60):=fh;have ar:¬ (60<(xs.length:Int)):=fh;obtain⟨g,aK,y,aA,aC,aB,aD,rfl,aG,hy,y0,y1,y2,y3,_,_,_,_⟩:=nA hx (k:=0) fh;simp only[Y0,Wk] at y0 y1 y2 y3;have ay:(0:Int)<(xs.length:Int):=fh;have ae:=zb4 hx hl;obtain⟨FL,ad⟩:∃ FL,zn xs=FL:=⟨_,rfl⟩
 rw[ad] at ae;have aj:=fk ad;clear ad;by_cases k0:y.fC=0
 rotate_left
 ·have HF:Hid (zA xs=M):=fk (CY (RP hy k0))
  have q0:(y.fC != 0)=H:=by rw[qk,Vp k0];rfl
  clear k0 h00 h60 hy;exact pY
 have q0:(y.fC != 0)=M:=by rw[qk,Vv k0];rfl
 by_cases k1:y.fJ=vp
 rotate_left
 ·have HF:Hid (zA xs=M):=fk (CY (RQ hy k1))
  have q1:(y.fJ.toList == [109,97,105,110])=M:=by rw[<-Jt,mb];exact Vp k1
  clear k0 k1 h00 h60 hy;exact pY
 have q1:(y.fJ.toList == [109,97,105,110])=H:=by rw[<-Jt,mb];exact Vv k1
 by_cases k2:y.gD.length=0
 rotate_left
 ·have HF:Hid (zA xs=M):=fk (CY (RR hy k2))
  have q2:((y.gD.length:Int) != 0)=H:=by rw[qk,Vp fh];rfl
  clear k0 k1 k2 h00 h60 hy;exact pY
 have q2:((y.gD.length:Int) != 0)=M:=by rw[qk,Vv fh];rfl
 have HH:=fk (RS hy k0 k1 k2);clear k0 k1 k2 hy;by_cases k6:6<FL.length
 ·have HF:Hid (zA xs=M):=fk (Rv (by rw[aj.out];exact k6))
  have az:(FL.length:Int) > 6:=fh;clear k6 h00 h60;go_enter func102,ntmps102;go_wp2_with(first | (go_at_call 106;refine ae.mono ?_;rintro e1 v1 ⟨AF,cF,SF,rfl,av,aw,af⟩))
  all_goals exact Vr (v:=X M) (by simp[VF,results102,go_sem]) rfl ⟨by rw[HF.out],af.trans gF⟩
 have az:¬ ((FL.length:Int) > 6):=fh;have aJ:¬ (6<(FL.length:Int)):=fh;have an:Hid ((zn xs).length<=6):=fk (by rw[aj.out];omega);have ab:Hid (xs.length<=60):=fk fh;clear k6 h60;go_enter func102,ntmps102;go_wp2_with(first | (go_at_call 106;refine ae.mono ?_;rintro e1 v1 ⟨AF,cF,SF,rfl,av,aw,af⟩));go_loopw [3] (fun j wr=>∃(i:Nat),j=C Z i/\i<=xs.length/\Hid (fy w wr)/\Hid (qL xs (xs.drop i) i=qL xs xs 0)) (fun j _=>xs.length-(Wj j).toNat)
 case atStart=>exact⟨0,rfl,Vu _,fk (af.trans gF),fk rfl⟩
 case round=>
  obtain⟨i,rfl,hi,hG,hE⟩:=hrel;by_cases hlt:i<xs.length
  ·obtain⟨g2,ah,x,al,ao,am,ap,a3,_,a5,x0,x1,x2,x3,b0,b1,h2,h3⟩:=nA hx hlt
   injection a3 with a3
   injection a3 with e1 e2
   subst e1 e2;have ag:(i:Int)<(xs.length:Int):=fh;have v0:=za hG.out x0;have aL:=za hG.out x1;have aM:=za hG.out x2;have v3:=za hG.out x3;obtain⟨a8,a9⟩:=hs x (Vx a5);have HX:=fk a5;clear a5;rcases Wm (qo x) with a1 | a1
   rotate_left
   ·have a6:=fk a1
    have HF:Hid (zA xs=M):=fk (I1 (by rw[<-hE.out,CI HX.out];unfold uv;rw[a1];rfl));clear a1;go_wp2_with(first | (go_at_call 158;refine(zjX (x:=x) b1 (Ty.up _ h2 (hG.out.trans gF)) (Ty.up _ h3 (hG.out.trans gF)) a8 a9).mono ?_;rw[a6.out];rintro e2 v2 ⟨rfl,hg2⟩;have u0:=za (hG.out.trans (fy.trans (b:=_) gF hg2)) x0;have u1:=za (hG.out.trans (fy.trans (b:=_) gF hg2)) x1))
    all_goals exact Vr (v:=X M) (by simp[VF,results102,go_sem]) rfl ⟨by rw[HF.out],hG.out.trans (fy.trans (b:=_) gF (hg2.trans gF))⟩
   have a6:=fk a1;by_cases k0:x.fC=0
   ·have ai:(x.fC == 0)=H:=V4.2 k0
    by_cases hf:lZ xs x.fJ=i
    ·have qf:(lZ xs x.fJ != (i:Int))=M:=by rw[qk,Vv hf];rfl
     have HF:Hid (qL xs (xs.drop (i+1)) (i+1)=qL xs xs 0):=fk (by rw[<-hE.out,CI HX.out];unfold uv;rw[a1,Vs k0,Vv hf];rfl);clear a1 k0 hf;go_wp2_with(first | (go_at_call 158;refine(zjX (x:=x) b1 (Ty.up _ h2 (hG.out.trans gF)) (Ty.up _ h3 (hG.out.trans gF)) a8 a9).mono ?_;rw[a6.out];rintro e2 v2 ⟨rfl,hg2⟩;have u0:=za (hG.out.trans (fy.trans (b:=_) gF hg2)) x0;have u1:=za (hG.out.trans (fy.trans (b:=_) gF hg2)) x1) | (go_at_call 159;refine(zdB (Ty.up _ hx (hG.out.trans (fy.trans (b:=_) gF (hg2.trans gF)))) hl).mono ?_;rintro e3 v3 ⟨rfl,a4⟩));go_roundw;exact⟨i+1,io,fh,fk (hG.out.trans (fy.trans (b:=_) gF (hg2.trans (fy.trans (b:=_) gF (a4.trans gF))))),HF⟩;exact iC
    ·have qf:(lZ xs x.fJ != (i:Int))=H:=by rw[qk,Vp hf];rfl
     have HF:Hid (zA xs=M):=fk (I1 (by rw[<-hE.out,CI HX.out];unfold uv;rw[a1,Vs k0,Vp hf];rfl));clear a1 k0 hf;go_wp2_with(first | (go_at_call 158;refine(zjX (x:=x) b1 (Ty.up _ h2 (hG.out.trans gF)) (Ty.up _ h3 (hG.out.trans gF)) a8 a9).mono ?_;rw[a6.out];rintro e2 v2 ⟨rfl,hg2⟩;have u0:=za (hG.out.trans (fy.trans (b:=_) gF hg2)) x0;have u1:=za (hG.out.trans (fy.trans (b:=_) gF hg2)) x1) | (go_at_call 159;refine(zdB (Ty.up _ hx (hG.out.trans (fy.trans (b:=_) gF (hg2.trans gF)))) hl).mono ?_;rintro e3 v3 ⟨rfl,a4⟩))
     all_goals exact Vr (v:=X M) (by simp[VF,results102,go_sem]) rfl ⟨by rw[HF.out],hG.out.trans (fy.trans (b:=_) gF (hg2.trans (fy.trans (b:=_) gF (a4.trans gF))))⟩
   ·have ai:(x.fC == 0)=M:=Vw.2 k0
    have HF:Hid (qL xs (xs.drop (i+1)) (i+1)=qL xs xs 0):=fk (by rw[<-hE.out,CI HX.out];unfold uv;rw[a1,Vo k0];rfl);clear a1 k0;go_wp2_with(first | (go_at_call 158;refine(zjX (x:=x) b1 (Ty.up _ h2 (hG.out.trans gF)) (Ty.up _ h3 (hG.out.trans gF)) a8 a9).mono ?_;rw[a6.out];rintro e2 v2 ⟨rfl,hg2⟩;have u0:=za (hG.out.trans (fy.trans (b:=_) gF hg2)) x0;have u1:=za (hG.out.trans (fy.trans (b:=_) gF hg2)) x1));go_roundw;exact⟨i+1,io,fh,fk (hG.out.trans (fy.trans (b:=_) gF (hg2.trans gF))),HF⟩;exact iC
  ·obtain rfl:i=xs.length:=fh
   have ag:¬ ((xs.length:Int)<(xs.length:Int)):=fh;have a7:Hid (zA xs=qQ xs xs.length 0):=fk (Rx ab.out HH.out an.out (by rw[<-hE.out,VW];rfl));have au:=hG;clear hG hE;go_wp2_with(fail);go_loopw [4] (fun j wr=>∃(k n:Nat),j=C Z k/\k<=xs.length/\xs.length<=n+k/\Hid (fy w wr)/\Hid (qQ xs n k=qQ xs xs.length 0)) (fun j _=>xs.length-(Wj j).toNat)
   case atStart=>exact⟨0,xs.length,rfl,Vu _,fh,fk (au.out.trans gF),fk rfl⟩
   case round=>
    obtain⟨k,n,rfl,hk,ax,hG,hE⟩:=hrel;by_cases hlt:k<xs.length
    ·obtain⟨g2,ah,x,al,ao,am,ap,a3,_,a5,x0,_,_,_,_,_,_,_⟩:=nA hx hlt
     injection a3 with a3
     injection a3 with e1 e2
     subst e1 e2;have ag:(k:Int)<(xs.length:Int):=fh;have v0:=za hG.out x0;have a2:=PV a5 ax;clear a5;by_cases k0:x.fC=0
     rotate_left
     ·have ai:(x.fC != 0)=H:=by rw[qk,Vp k0];rfl
      have HF:Hid (zA xs=M):=fk (by rw[a7.out,<-hE.out,a2,Vp k0];rfl);obtain⟨ev,ak⟩:∃ ev,jA xs k=ev:=⟨_,rfl⟩
      have HE:=fk ak;clear ak a2 k0;exact wQ
     have ai:(x.fC != 0)=M:=by rw[qk,Vv k0];rfl
     rcases zs xs k with⟨he,_⟩ | ⟨e,he,a0⟩
     ·have HE:=fk he
      have HF:Hid (zA xs=M):=fk (by rw[a7.out,<-hE.out,a2,he,Vv k0];rfl);clear he a2 k0;exact wQ
     have HE:=fk he;have aF:=a0.len;have aH:=a0.lt;have aE:¬ ((e:Int)<0):=fh;have aI:Vl Z ((e:Int)+1)=(e:Int)+1:=iw;rw[he,Vy,Vv k0,Vv (show (0:Int)<=(e:Int) from fh),XX,XX] at a2;rcases Wm (oy xs k e) with hb | hb
     ·have aa:=fk hb
      have HF:Hid (qQ xs (n-1) (e+1)=qQ xs xs.length 0):=fk (by rw[<-hE.out,a2,hb,XX]);clear he a2 k0 hb;go_wp2_with(first | (go_at_call 160;refine(zbF (Ty.up _ hx (hG.out.trans gF)) hl).mono ?_;rw[HE.out];rintro e2 v2 ⟨rfl,hg2⟩;have u0:=za (hG.out.trans (fy.trans (b:=_) gF hg2)) x0) | (go_at_call 161;refine(zwn (Ty.up _ hx (hG.out.trans (fy.trans (b:=_) gF (hg2.trans gF)))) hl hs a0).mono ?_;rw[aa.out];rintro e3 v3 ⟨rfl,a4⟩));go_roundw;exact⟨e+1,n-1,io,fh,fh,fk (hG.out.trans (fy.trans (b:=_) gF (hg2.trans (fy.trans (b:=_) gF (a4.trans gF))))),HF⟩;exact iC
     ·have aa:=fk hb
      have HF:Hid (zA xs=M):=fk (by rw[a7.out,<-hE.out,a2,hb];rfl);clear he a2 k0 hb;go_wp2_with(first | (go_at_call 160;refine(zbF (Ty.up _ hx (hG.out.trans gF)) hl).mono ?_;rw[HE.out];rintro e2 v2 ⟨rfl,hg2⟩;have u0:=za (hG.out.trans (fy.trans (b:=_) gF hg2)) x0) | (go_at_call 161;refine(zwn (Ty.up _ hx (hG.out.trans (fy.trans (b:=_) gF (hg2.trans gF)))) hl hs a0).mono ?_;rw[aa.out];rintro e3 v3 ⟨rfl,a4⟩))
      all_goals exact Vr (v:=X M) (by simp[VF,results102,go_sem]) rfl ⟨by rw[HF.out],hG.out.trans (fy.trans (b:=_) gF (hg2.trans (fy.trans (b:=_) gF (a4.trans gF))))⟩
    ·obtain rfl:k=xs.length:=fh
     have ag:¬ ((xs.length:Int)<(xs.length:Int)):=fh;have HF:Hid (zA xs=H):=fk (by rw[a7.out,<-hE.out];exact O9 (Vz _));go_wp2_with(fail);exact Vr (v:=X H) (by simp[VF,results102,go_sem]) rfl ⟨by rw[HF.out],hG.out.trans gF⟩
theorem BA {b:gP}:VK prog 104 #[.agg #[C Z b.gW,C Z b.gN,X b.iO,X b.ic]] w fun r w'=>r=.returned (X (kC b))/\fy w w':=by
 go_enter func104,ntmps104;go_wp2_with(first | (go_at_call 43;refine(iU _ _ _ _).mono ?_;rintro e w1 ⟨rfl,rfl⟩))
 all_goals
  go_ret
  refine⟨zp ?_,gG⟩
  unfold kC
  simp_all
theorem ji.gu {P:kw}{m:gA}{rows:D (D Value)}{W W':V}{Ai As:N VQ}{ci cs:Nat}{Si Ss S:D Nat}(h:ji P m rows W Ai ci Si As cs Ss)(ho:fG S W W')(hS:∀ b∈S,b≠P.g/\b∉Si/\b∉Ss/\P.Y.heap.size<=b):ji P m rows W' Ai ci Si As cs Ss:=
 ⟨(ho.block P.g (blt h.box) (fun hm=>(hS _ hm).1 rfl)).trans h.box,h.iM.gu ho (fun b hb hm=>(hS b hm).2.1 hb),h.px.gu ho (fun b hb hm=>(hS b hm).2.2.1 hb),h.lG,h.gn,ho.fH h.fH (fun b hb=>(hS b hb).2.2.2),h.low⟩
theorem ji.grow (h:ji P m rows W Ai ci Si As cs Ss)(hg:fy W W'):ji P m rows W' Ai ci Si As cs Ss:=
 ⟨zj h.box hg,h.iM.fH hg,h.px.fH hg,h.lG,h.gn,h.fH.trans hg,h.low⟩
theorem ji.num {m':gA} (h:ji P m rows W Ai ci Si As cs Ss){i:Nat}{v:Value}(hi:m'.fx=m.fx)
  (hrow:∀ a b c d e f g x y,(#[a,b,c,d,e,f,g,C Z m.most,C Z P.E.args,C Z m.fv,x,y,X m.start]:Array Value).setIfInBounds i v=#[a,b,c,d,e,f,g,C Z m'.most,C Z P.E.args,C Z m'.fv,x,y,X m'.start]) :
  ji P m' rows (W.setCell ⟨P.g,i,I⟩ v) Ai ci Si As cs Ss/\fG [P.g] W (W.setCell ⟨P.g,i,I⟩ v):=by
 have a0:fG [P.g] W (W.setCell ⟨P.g,i,I⟩ v):=(fG.refl _ _).setCell (p:=⟨P.g,i,I⟩) gm _;refine⟨⟨ko (i:=i) (v:=v) h.box (by rw[hrow,hi]),?_,?_,h.lG,h.gn,a0.fH h.fH (fun b hb=>by simp at hb;exact hb ▸ h.low.1),h.low⟩,a0⟩
 ·rw[hi]
  exact h.iM.gu a0 (fun x hx hm=>by simp at hm;exact h.gn.1 (hm ▸ hx))
 ·exact h.px.gu a0 (fun x hx hm=>by simp at hm;exact h.gn.2 (hm ▸ hx))
theorem ji.fx {A':N VQ} {c':Nat} {Sy S':D Nat} {its':D fX} (h:ji P m rows W Ai ci Si As cs Ss)
  (hy:∀ b∈Sy,b≠P.g/\b∉Ss/\P.Y.heap.size<=b) (hon:fG Si W W') (hH:Has (qS.sl 227) W' [J A' its'.length c'] its' S') (hS:∀ b∈S',b∈Si∨b∈Sy∨W.heap.size<=b) :
  ji P (m.jH its') rows (W'.setCell ⟨P.g,10,I⟩ (J A' its'.length c')) A' c' S' As cs Ss/\fG (P.g::(Si++Ss)) W (W'.setCell ⟨P.g,10,I⟩ (J A' its'.length c')):=by
 have a4:=(blt h.box)
 have a3:=(hon.block P.g a4 h.gn.1).trans h.box;have a0:fG [P.g] W' (W'.setCell ⟨P.g,10,I⟩ (J A' its'.length c')):=(fG.refl _ _).setCell (p:=⟨P.g,10,I⟩) (by simp) _;have a6:=h.fH.size
 have a1:P.g∉S':=fun hm=>by
  rcases hS _ hm with h1 | h1 | h1
  ·exact h.gn.1 h1
  ·exact(hy _ h1).1 rfl
  ·omega
 have a2:∀ b∈S',b∉Ss:=fun b hb hm=>by
  rcases hS b hb with h1 | h1 | h1
  ·exact h.lG b h1 hm
  ·exact(hy b h1).2.1 hm
  ·have:=h.px.lt b hm;omega
 have a5:∀ b∈S',P.Y.heap.size<=b:=fun b hb=>by
  rcases hS b hb with h1 | h1 | h1
  ·exact h.low.2.1 b h1
  ·exact(hy b h1).2.2
  ·omega
 refine⟨⟨ko (i:=10) (v:=J A' its'.length c') a3 rfl,hH.gu a0 (fun b hb hm=>by simp at hm;exact a1 (hm ▸ hb)),(h.px.gu hon (fun b hb hm=>h.lG b hm hb)).gu a0 (fun b hb hm=>by simp at hm;exact h.gn.2 (hm ▸ hb)),a2,⟨a1,h.gn.2⟩,a0.fH (hon.fH h.fH h.low.2.1) (fun b hb=>by simp at hb;exact hb ▸ h.low.1),⟨h.low.1,a5,h.low.2.2⟩⟩,?_⟩;exact(hon.mono (fun b hb=>by simp[hb])).trans (a0.mono (fun b hb=>by simp at hb;simp[hb]))
theorem wG {g:Prop} (f:g:=by
  try simp only[lay]
  refine fL.iQ (i:=10) gU rfl (fun K hK=>?_)
  ·refine rj (L:=ft.length) rfl (.tmp 19) (.tmp 20) me zI HJ.ha (Ty.up _ hc HJ.hg) rfl rfl rfl (VJ _).symm fh fh ?_
   intro B1 d1 W1 S1 hon hH hS
   rw[Wo] at hH
   have HJ:=HJ.rO hon hH hS
   refine hK.out _ _ (HJ.cell z12) ?_
   clear hK
   try simp only[lay]
   refine .tq 11 [13] (HJ.cell z12) ?_
   obtain⟨o0,o1,o2,o3,o4,o5,o6,of,ol⟩:=jb HJ.ho
   refine fL.last gU rfl gU (fun K hK=>?_)
   go_simp
   refine hK.out _ _ ?_
   clear hK
   try simp only[lay]
   have h2:=qT HJ.ho (C Z code) (C Z arg) (C Z line) (X m.start) (J B1 ft.length d1) (C Z 0) (X M)
   have HJ:=HJ.store h2.2 h2.1 hgo
   go_wp2_with(fail)
   go_meet
   exact⟨_,B1,d1,S1,rfl,HJ,hgo⟩):g:=f
theorem zfL {L:D Nat} {code arg:Int} (h:kj P m rows W L)
  (hc:(zv.sl 3).R W W.heap.size [J Ac ft.length cc] ft) (hcl:ft.length<=1000) (hln:m.fx.length<=100000) (b0:fQ code) (b1:fQ arg) (b2:fQ line) (b3:fQ m.fv) :
  VK prog 203 #[.pointer (F ⟨P.g,0,I⟩),C Z code,C Z arg,C Z line,J Ac ft.length cc] W fun r W'=>r=.returned (.tuple #[])/\iv P (zC P.E m code arg line ft) rows W L W':=by
 obtain⟨Ai,ci,Si,As,cs,Ss,hB,rfl⟩:=h;obtain⟨z0,z1,z2,z3,z4,z5,z6,z7,z8,z9,ad,ai,z12,zf,zl⟩:=pH hB.box;go_enter func203,ntmps203;go_upto_region 0 with(fail);go_cut [10] from 10 to 22 (fun v wx=>∃(g3:Nat) (B1:N VQ) (d1:Nat) (S1:D Nat),v=.pointer (F ⟨g3,0,I⟩)/\J3 zv zv 3 3 W wx (J B1 ft.length d1) (J I 0 0) ft [] S1 [] g3 (U #[C Z code,C Z arg,C Z line,X m.start,J B1 ft.length d1,C Z 0,X M] 227 (0,0))/\W.heap.size<=g3)
 case first=>
  refine lO (fun w'=>Vg w' ⟨P.g,12,I⟩=F (X m.start)) 13 gU (zc z12) (fun hH=>?_);have HJ:=J3.start (T:=zv) (U7:=zv) (e:=3) (f:=3) hB.box;have HJ:=HJ.fH ((fy.refl _).drew);generalize hYd:W.drew=Wx at HJ hH |-;clear hYd;refine .tq 0 [13] hH ?_;refine .tq 1 [13] hH ?_;refine .tq 2 [13] hH ?_;refine .tq 3 [13] hH ?_;refine .tq 4 [13] hH ?_;refine .tq 5 [13] hH ?_;refine .tq 6 [13] hH ?_;refine .tq 7 [13] hH ?_;refine .tq 9 [13] hH ?_;refine fL.s7 (i:=8) (j:=12) gU rfl rfl (fun K hK=>?_) (fun K hK=>?_)
  ·go_simp
   have HJ:=HJ.nM;refine hK.out _ _ (HJ.cell z12) ?_;clear hK;generalize WJ _ (U #[] 3)=Wx at HJ |-
   try simp only[lay]
   refine fL.s7 (i:=10) (j:=12) gU rfl rfl (fun K hK=>?_) (fun K hK=>?_)
   ·refine rj (L:=ft.length) rfl (.tmp 19) (.tmp 20) me zI HJ.ha (Ty.up _ hc HJ.hg) rfl rfl rfl (VJ _).symm fh fh ?_
    intro B1 d1 W1 S1 hon hH hS;rw[Wo] at hH;have HJ:=HJ.rO hon hH hS;refine hK.out _ _ (HJ.cell z12) ?_;clear hK
    try simp only[lay]
    refine .tq 11 [13] (HJ.cell z12) ?_;refine fL.iQ (i:=12) gU rfl (fun K hK=>?_)
    ·go_simp
     have hgo:=HJ.hg.size;have HJ:=HJ.mV (cs:=#[C Z 0,C Z 0,C Z 0,X M,J I 0 0,C Z 0,X M]) (t:=227);refine hK.out _ _ (HJ.cell z12) ?_;clear hK;generalize WJ _ (U #[C Z 0,C Z 0,C Z 0,X M,J I 0 0,C Z 0,X M] 227)=Wx at HJ |-
     try simp only[lay]
     obtain⟨o0,o1,o2,o3,o4,o5,o6,of,ol⟩:=jb HJ.ho;refine fL.last gU rfl gU (fun K hK=>?_);go_simp;refine hK.out _ _ ?_;clear hK
     try simp only[lay]
     have h2:=qT HJ.ho (C Z code) (C Z arg) (C Z line) (X m.start) (J B1 ft.length d1) (C Z 0) (X M);have HJ:=HJ.store h2.2 h2.1 hgo;go_wp2_with(fail);go_meet;exact⟨_,B1,d1,S1,rfl,HJ,hgo⟩
   ·go_simp
    have hgo:=HJ.hg.size;have HJ:=HJ.mV (cs:=#[C Z 0,C Z 0,C Z 0,X M,J I 0 0,C Z 0,X M]) (t:=227);refine hK.out _ _ (HJ.cell z12) ?_;clear hK;generalize WJ _ (U #[C Z 0,C Z 0,C Z 0,X M,J I 0 0,C Z 0,X M] 227)=Wx at HJ |-;exact wG
  ·go_simp
   have hgo:=HJ.hg.size;have HJ:=HJ.mV (cs:=#[C Z 0,C Z 0,C Z 0,X M,J I 0 0,C Z 0,X M]) (t:=227);refine hK.out _ _ (HJ.cell z12) ?_;clear hK;generalize WJ _ (U #[C Z 0,C Z 0,C Z 0,X M,J I 0 0,C Z 0,X M] 227)=Wx at HJ |-
   try simp only[lay]
   refine fL.iQ (i:=8) gU rfl (fun K hK=>?_)
   ·go_simp
    have HJ:=HJ.nM;refine hK.out _ _ (HJ.cell z12) ?_;clear hK;generalize WJ _ (U #[] 3)=Wx at HJ |-;exact wG
 case rest=>
  obtain⟨g3,B1,d1,S1,rfl,HJ,ao⟩:=hcut;have aj:=hB.grow HJ.hg;have ak:=hB;have az:=(blt hB.box)
  have aA:P.g≠g3:=fh;have ac:g3≠P.g:=fh
  have ab:∀ b∈[g3],b≠P.g/\b∉Si/\b∉Ss/\P.Y.heap.size<=b:=fun b hb=>by
   simp at hb;subst hb;exact⟨ac,fun hm=>by have:=hB.iM.lt _ hm;omega,fun hm=>by have:=hB.px.lt _ hm;omega,by have:=hB.low.1;omega⟩
  obtain⟨o0,o1,o2,o3,o4,o5,o6,of,ol⟩:=jb HJ.ho;clear z0 z1 z2 z3 z4 z5 z6 z7 z8 z9 ad ai z12 zf zl;obtain⟨z0,z1,z2,z3,z4,z5,z6,z7,z8,z9,ad,ai,z12,zf,zl⟩:=pH aj.box;clear hB
  obtain⟨x,hx,aw⟩:∃ x,mP P.E m code arg line ft=x/\((P.E.gT=H/\0<m.fx.length/\x=⟨⟨code,arg⟩,line,m.start,ft,0,H⟩)∨(P.E.gT=H/\¬ 0<m.fx.length/\x=⟨⟨code,arg⟩,line,m.start,ft,m.fv,M⟩)∨(P.E.gT=M/\True/\x=⟨⟨code,arg⟩,line,m.start,ft,m.fv,M⟩)):=by
   refine⟨_,rfl,?_⟩;by_cases a6:P.E.gT=H
   ·by_cases h0:0<m.fx.length
    ·exact .inl ⟨a6,h0,by unfold mP;simp[a6,h0]⟩
    ·exact .inr (.inl ⟨a6,h0,by unfold mP;simp[h0]⟩)
   ·have ag:P.E.gT=M:=by simpa using a6
    exact .inr (.inr ⟨ag,trivial,by unfold mP;simp[ag]⟩)
  rcases aw with⟨a6,h0,a7⟩ | ⟨a6,h0,a7⟩ | ⟨a6,h0,a7⟩
  all_goals rw[a6] at z5
  case' inl=>
   have ap:(m.fx.length:Int) > 0:=fh;have aq:0<(m.fx.length:Int):=fh;have e1:=ko (i:=6) (v:=X H) HJ.ho rfl;have a4:fG [g3] wc (wc.setCell ⟨g3,6,I⟩ (X H)):=(fG.refl _ _).setCell (p:=⟨g3,6,I⟩) gm _;have ae:=aj.gu a4 ab;obtain⟨a3,a5⟩:=ae.num (i:=12) (v:=X M) (m':=⟨m.fx,m.fv,m.most,M⟩) rfl (fun _ _ _ _ _ _ _ _ _=>rfl);have e2:=(a5.block g3 (blt e1) (by simpa using ac)).trans e1;have a8:fG (P.g::(Si++Ss)) W ((wc.setCell ⟨g3,6,I⟩ (X H)).setCell ⟨P.g,12,I⟩ (X M)):=((HJ.hg.only _).then (a4.mono (S':=[g3]) (fun _ h=>h)) (fun b hb=>by simp at hb;subst hb;exact .inr ao)).then (a5.mono (S':=[P.g]) (fun _ h=>h)) (fun b hb=>by simp at hb;subst hb;exact .inl gm);have a9:=(HJ.ha.gu a4 (fun b hb hm=>by simp at hm;exact HJ.su (hm ▸ hb))).gu a5 (fun b hb hm=>by simp at hm;subst hm;have:=HJ.la _ hb;omega)
   have aa:Has qS ((wc.setCell ⟨g3,6,I⟩ (X H)).setCell ⟨P.g,12,I⟩ (X M)) [C Z x.Op.Code,C Z x.Op.iz,C Z x.fZ,X x.fA,J B1 x.fP.length d1,C Z x.fT,X x.fU] x S1:=by
    subst a7;exact⟨Fh B1 d1 S1 b0 b1 b2 a9.1 ((⟨gv,gv⟩:fQ 0)),a9.2⟩
   have e5:((wc.setCell ⟨g3,6,I⟩ (X H)).setCell ⟨P.g,12,I⟩ (X M)).heap[g3]?=F (U #[C Z x.Op.Code,C Z x.Op.iz,C Z x.fZ,X x.fA,J B1 x.fP.length d1,C Z x.fT,X x.fU] 227 (0,0)):=by subst a7;exact e2
   clear a7 e1 a4 ae a5 e2 a9;go_upto_region 5 with(fail);generalize ((wc.setCell _ _).setCell _ _)=W5 at a3 a8 aa e5 |-
  case' inr.inl=>
   have ap:¬ ((m.fx.length:Int) > 0):=fh;have aq:¬ (0<(m.fx.length:Int)):=fh
  case' inr.inl | inr.inr=>
   have e1:=ko (i:=5) (v:=C Z m.fv) HJ.ho rfl;have a4:fG [g3] wc (wc.setCell ⟨g3,5,I⟩ (C Z m.fv)):=(fG.refl _ _).setCell (p:=⟨g3,5,I⟩) gm _;have ae:=aj.gu a4 ab;obtain⟨a3,a5⟩:=ae.num (i:=12) (v:=X M) (m':=⟨m.fx,m.fv,m.most,M⟩) rfl (fun _ _ _ _ _ _ _ _ _=>rfl);have e2:=(a5.block g3 (blt e1) (by simpa using ac)).trans e1;have a8:fG (P.g::(Si++Ss)) W ((wc.setCell ⟨g3,5,I⟩ (C Z m.fv)).setCell ⟨P.g,12,I⟩ (X M)):=((HJ.hg.only _).then (a4.mono (S':=[g3]) (fun _ h=>h)) (fun b hb=>by simp at hb;subst hb;exact .inr ao)).then (a5.mono (S':=[P.g]) (fun _ h=>h)) (fun b hb=>by simp at hb;subst hb;exact .inl gm);have a9:=(HJ.ha.gu a4 (fun b hb hm=>by simp at hm;exact HJ.su (hm ▸ hb))).gu a5 (fun b hb hm=>by simp at hm;subst hm;have:=HJ.la _ hb;omega)
   have aa:Has qS ((wc.setCell ⟨g3,5,I⟩ (C Z m.fv)).setCell ⟨P.g,12,I⟩ (X M)) [C Z x.Op.Code,C Z x.Op.iz,C Z x.fZ,X x.fA,J B1 x.fP.length d1,C Z x.fT,X x.fU] x S1:=by
    subst a7;exact⟨Fh B1 d1 S1 b0 b1 b2 a9.1 (b3),a9.2⟩
   have e5:((wc.setCell ⟨g3,5,I⟩ (C Z m.fv)).setCell ⟨P.g,12,I⟩ (X M)).heap[g3]?=F (U #[C Z x.Op.Code,C Z x.Op.iz,C Z x.fZ,X x.fA,J B1 x.fP.length d1,C Z x.fT,X x.fU] 227 (0,0)):=by subst a7;exact e2
   clear a7 e1 a4 ae a5 e2 a9;go_upto_region 5 with(fail);generalize ((wc.setCell _ _).setCell _ _)=W5 at a3 a8 aa e5 |-
  all_goals
   have HX:=fk hx
   clear hx
   have ax:∀ b∈S1,W.heap.size<=b:=HJ.la
   have al:∀ b∈Si,b∉S1:=fun b hb hm=>by have h1:=HJ.la b hm;have h2:=ak.iM.lt b hb;omega
   have hy:∀ b∈S1,b≠P.g/\b∉Ss/\P.Y.heap.size<=b:=fun b hb=>⟨fun h=>by have h1:=HJ.la b hb;omega,fun hm=>by have h1:=HJ.la b hb;have h2:=ak.px.lt b hm;omega,by have h1:=HJ.la b hb;have h2:=ak.fH.size;omega⟩
   have a1:g3∉Si:=fun hm=>(ab g3 gm).2.1 hm
   clear HJ aj
   clear z0 z1 z2 z3 z4 z5 z6 z7 z8 z9 ad ai z12 zf zl o0 o1 o2 o3 o4 o5 o6 of ol
   obtain⟨z0,z1,z2,z3,z4,z5,z6,z7,z8,z9,ad,ai,z12,zf,zl⟩:=pH a3.box
   obtain⟨q0,q1,q2,q3,q4,q5,q6,qf,ql⟩:=jb e5
   have ah:Vg W5 ⟨P.g,10,I⟩=F (J Ai m.fx.length ci):=ad
   clear z0 z1 z2 z3 z4 z5 z6 z7 z8 z9 ad ai z12 zf zl qf ql
   refine lO (fun w'=>Vg w' ⟨P.g,10,I⟩=F (J Ai m.fx.length ci)/\Vg w' ⟨g3,0,I⟩=F (C Z x.Op.Code)/\Vg w' ⟨g3,1,I⟩=F (C Z x.Op.iz)/\Vg w' ⟨g3,2,I⟩=F (C Z x.fZ)/\Vg w' ⟨g3,3,I⟩=F (X x.fA)/\Vg w' ⟨g3,4,I⟩=F (J B1 x.fP.length d1)/\Vg w' ⟨g3,5,I⟩=F (C Z x.fT)/\Vg w' ⟨g3,6,I⟩=F (X x.fU)) 10 gU ⟨zc ah,zc q0,zc q1,zc q2,zc q3,zc q4,zc q5,zc q6⟩ (fun a2=>?_)
   have a3:=a3.grow ((fy.refl W5).drew)
   have aa:=aa.fH ((fy.refl W5).drew)
   have a8:=a8.trans (((fy.refl W5).drew).only _)
   clear ah q0 q1 q2 q3 q4 q5 q6 e5
   generalize W5.drew=Wd at a3 aa a8 a2 |-
   have av:=a2
   obtain⟨ah,q0,q1,q2,q3,q4,q5,q6⟩:=av
   refine .tq 0 [10] a2 ?_
   refine .tq 1 [10] a2 ?_
   refine .tq 2 [10] a2 ?_
   refine .tq 3 [10] a2 ?_
   refine .tq 4 [10] a2 ?_
   refine .tq 5 [10] a2 ?_
   refine fL.iQ (i:=6) gU rfl (fun K hK=>?_)
   ·go_simp
    have a2:=Vm (zq ah (U #[C Z x.Op.Code,C Z x.Op.iz,C Z x.fZ,X x.fA,J B1 x.fP.length d1,C Z x.fT,X x.fU] 227)) (Vm (zq q0 (U #[C Z x.Op.Code,C Z x.Op.iz,C Z x.fZ,X x.fA,J B1 x.fP.length d1,C Z x.fT,X x.fU] 227)) (Vm (zq q1 (U #[C Z x.Op.Code,C Z x.Op.iz,C Z x.fZ,X x.fA,J B1 x.fP.length d1,C Z x.fT,X x.fU] 227)) (Vm (zq q2 (U #[C Z x.Op.Code,C Z x.Op.iz,C Z x.fZ,X x.fA,J B1 x.fP.length d1,C Z x.fT,X x.fU] 227)) (Vm (zq q3 (U #[C Z x.Op.Code,C Z x.Op.iz,C Z x.fZ,X x.fA,J B1 x.fP.length d1,C Z x.fT,X x.fU] 227)) (Vm (zq q4 (U #[C Z x.Op.Code,C Z x.Op.iz,C Z x.fZ,X x.fA,J B1 x.fP.length d1,C Z x.fT,X x.fU] 227)) (Vm (zq q5 (U #[C Z x.Op.Code,C Z x.Op.iz,C Z x.fZ,X x.fA,J B1 x.fP.length d1,C Z x.fT,X x.fU] 227)) (zq q6 (U #[C Z x.Op.Code,C Z x.Op.iz,C Z x.fZ,X x.fA,J B1 x.fP.length d1,C Z x.fT,X x.fU] 227))))))));refine hK.out _ _ a2 ?_;clear hK
    try simp only[lay]
    refine fL.iQ (i:=7) gU rfl (fun K hK=>?_)
    ·have a0:fy Wd (Wd.alloc (U #[C Z x.Op.Code,C Z x.Op.iz,C Z x.fZ,X x.fA,J B1 x.fP.length d1,C Z x.fT,X x.fU] 227)):=(fy.refl _).alloc _
     refine Bh (L:=m.fx.length+1) rfl (.tmp 48) (.tmp 50) Uz (a3.iM.fH a0) (aa.fH a0) al rfl rfl rfl (by intro j u hu;simpa[go_sem] using hu) rfl fh fh ?_;intro A7 c7 W7 S7 hon ar am;have a2:=Vm (zE ah a0 hon a3.gn.1) (Vm (zE q0 a0 hon a1) (Vm (zE q1 a0 hon a1) (Vm (zE q2 a0 hon a1) (Vm (zE q3 a0 hon a1) (Vm (zE q4 a0 hon a1) (Vm (zE q5 a0 hon a1) (zE q6 a0 hon a1)))))));have an:=(hon.block P.g (Wt.1 (a3.grow a0).box).1 a3.gn.1).trans (a3.grow a0).box;obtain⟨_,_,_,_,_,_,_,_,_,_,_,_,_,zf,zl⟩:=pH an;clear an;refine hK.out _ _ a2 ?_;clear hK
     try simp only[lay]
     refine .tq 8 [9,10] a2 ?_;refine .tq 9 [10] a2 ?_;refine fL.last gU rfl gU (fun K hK=>?_);go_simp;refine hK.out _ _ ?_;clear hK
     try simp only[lay]
     have af:=(a3.grow a0).fx (its':=m.fx++[x]) (A':=A7) (c':=c7) (Sy:=S1) hy hon (by simpa using ar) (fun b hb=>by rcases am b hb with h | h | h;exact .inl h;exact .inr (.inl h);exact .inr (.inr h));simp only[Vk,VC,VZ,VJ] at af;have hE:zC P.E m code arg line ft=gA.jH ⟨m.fx,m.fv,m.most,M⟩ (m.fx++[x]):=by unfold zC;rw[HX.out];rfl
     have aB:=(a8.trans (a0.only (P.g::(Si++Ss)))).size;have ay:=(a8.trans (a0.only _)).trans af.2
     have au:∀ b∈P.g::(S7++Ss),b∈P.g::(Si++Ss)∨W.heap.size<=b:=fun b hb=>by
      rcases VT.1 hb with h | hb
      ·exact .inl (by simp[h])
      ·rcases VA.1 hb with hb | hb
       ·rcases am b hb with h | h | h
        ·exact .inl (by simp[h])
        ·exact .inr (ax b h)
        ·exact .inr fh
       ·exact .inl (by simp[hb])
     have af:=af;go_wp2_with(fail);exact Wp (v:=.tuple #[]) (by simp[VF,results203,go_sem]) rfl ⟨rfl,_,⟨A7,c7,S7,As,cs,Ss,af.1,rfl⟩,ay,au⟩
theorem oU {g:Nat} {o0 o1 o2 o3 o4 o5:Value} {e:Wl} (h:W.heap[g]?=F (U #[o0,o1,o2,o3,o4,o5] e (0,0))) :
  Vg W ⟨g,0,I⟩=F o0/\Vg W ⟨g,1,I⟩=F o1/\Vg W ⟨g,2,I⟩=F o2/\Vg W ⟨g,3,I⟩=F o3/\Vg W ⟨g,4,I⟩=F o4/\Vg W ⟨g,5,I⟩=F o5/\(∀ j,VE W ⟨g,j,I⟩=M)/\g<W.heap.size:=by
 refine⟨?_,?_,?_,?_,?_,?_,fun j=>by simp[VE,h],(blt h)⟩
 all_goals
  rw[WC W g _ _ _ (0,0) h]
  rfl
theorem xZ {g:Prop} (f:g:=by
  obtain⟨L',h1,h2,h3⟩:=h
  exact⟨L',h1,(hg.only L).trans h2,fun b hb=>(h3 b hb).imp id (fun h=>VL hg.size h)⟩):g:=f
theorem iv.from {W1 W2:V} {L:D Nat} (hg:fy W W1)(h:iv P m rows W1 L W2):iv P m rows W L W2:=by
 exact xZ
theorem iv.num {P:kw}{m m':gA}{rows:D (D Value)}{W W':V}{L:D Nat}(h:iv P m rows W L W'){i:Nat}{v:Value}(hi:m'.fx=m.fx)
  (hrow:∀ a b c d e f g x y,(#[a,b,c,d,e,f,g,C Z m.most,C Z P.E.args,C Z m.fv,x,y,X m.start]:Array Value).setIfInBounds i v=#[a,b,c,d,e,f,g,C Z m'.most,C Z P.E.args,C Z m'.fv,x,y,X m'.start]) :
  iv P m' rows W L (W'.setCell ⟨P.g,i,I⟩ v):=by
 obtain⟨L',h1,h2,h3⟩:=h;obtain⟨g1,g2⟩:=h1.num (i:=i) (v:=v) hi hrow;exact⟨L',g1,h2.then g2 h3,h3⟩
theorem iv.fH {P:kw}{m:gA}{rows:D (D Value)}{W W' W2:V}{L:D Nat}(h:iv P m rows W L W')(hg:fy W' W2):iv P m rows W L W2:=by
 obtain⟨L',h1,h2,h3⟩:=h;exact⟨L',h1.fH hg,h2.trans (hg.only L),h3⟩
theorem Jy {E:gw} {s:fV} {i:Int} (hi:0<=i/\i<=100)(hd : -1000000<=d/\d<=1000000)(hf : -1000<=s.first/\s.first<=1000)(ha:0<=E.args/\E.args<=100):fQ (mE E d s i st).1/\fQ (mE E d s i st).2:=by
 unfold mE fQ;simp only;refine⟨⟨?_,?_⟩,⟨?_,?_⟩⟩
 ·split <;> split <;> omega
 ·split <;> split <;> omega
 ·split <;> split <;> (try split) <;> omega
 ·split <;> split <;> (try split) <;> omega
theorem zt7 {L:D Nat} {s:fV} {i:Int} {A2:N VQ} {n0 n1 n2 c2:Nat} (h:kj P m rows W L)(hi:0<=i/\i<=100)(hd : -1000000<=m.fv/\m.fv<=1000000)(hf : -1000<=s.first/\s.first<=1000)(ha:0<=P.E.args/\P.E.args<=100) :
  VK prog 220 #[.pointer (F ⟨P.g,0,I⟩),.agg #[C Z s.f,J A0 n0 c0,J A1 n1 c1,C Z s.first,X s.iu,J A2 n2 c2],C Z i,X st] W fun r W'=>r=.returned (.tuple #[C Z (mE P.E m.fv s i st).1,C Z (mE P.E m.fv s i st).2])/\fy W W':=by
 obtain⟨Ai,ci,As,cs,z0,z1,z2,z5,z6,z7,z8,z9,a7,a8,a9,zf,zl⟩:=h.cells;unfold mE;clear h;obtain⟨ou,a4⟩:∃ b,s.iu=b:=⟨_,rfl⟩
 obtain⟨fr,a3⟩:∃ b,P.E.gT=b:=⟨_,rfl⟩
 rw[a4];rw[a3] at z5 |-;clear a4 a3;obtain⟨d,a1⟩:∃ d,m.fv=d:=⟨_,rfl⟩
 rw[a1] at z9 hd |-;obtain⟨a,a0⟩:∃ d,P.E.args=d:=⟨_,rfl⟩
 rw[a0] at z8 ha |-;obtain⟨f,a2⟩:∃ d,s.first=d:=⟨_,rfl⟩
 rw[a2] at hf |-;clear a1 a0 a2;have w1:Vl Z (a-i)=a-i:=iw;have w2:Vl Z (i-a)=i-a:=iw;have w3:Vl Z (f+i)=f+i:=iw;have w4:Vl Z (d-1)=d-1:=iw;have w5:Vl Z (d-1-(i-a))=d-1-(i-a):=iw;have w6:Vl Z (d-1-(f+i))=d-1-(f+i):=iw;have w7:Vl Z (d+(a-i))=d+(a-i):=iw;have w8:Vl Z (-1-(i-a)) = -1-(i-a):=iw;have w9:Vl Z (-1-(f+i)) = -1-(f+i):=iw;have a5:Vl Z (1+(a-i))=1+(a-i):=iw;have a6:Vl Z (d-1-0)=d-1-0:=iw;by_cases hia:i<a
 ·cases ou <;> cases fr <;> cases st
  all_goals
   go_enter func220,ntmps220
   go_wp2_with(fail)
   refine Vr ?_ rfl ⟨rfl,gG⟩
   simp[VF,results220,go_sem,hia]
 ·cases ou <;> cases fr <;> cases st
  all_goals
   go_enter func220,ntmps220
   go_wp2_with(fail)
   refine Vr ?_ rfl ⟨rfl,gG⟩
   simp[VF,results220,go_sem,hia]
theorem zzn {L:D Nat} {s:fV} {i:Int} (h:kj P m rows W L)(hc:(zv.sl 3).R W W.heap.size [J Ac s.ft.length cc] s.ft)(hcl:s.ft.length<=1000)(hln:m.fx.length<=100000)
  (hi:0<=i/\i<=100) (hd : -1000000<=m.fv/\m.fv<=1000000) (hf : -1000<=s.first/\s.first<=1000) (ha:0<=P.E.args/\P.E.args<=100) (hl:fQ line) :
  VK prog 217 #[.pointer (F ⟨P.g,0,I⟩),.agg #[C Z s.f,J Ac s.ft.length cc,J Al nl cl,C Z s.first,X s.iu,J Av nv cv],C Z i,C Z line] W fun r W'=>r=.returned (.tuple #[])/\iv P (BX P.E m s i line) rows W L W':=by
 have hb:=Jy (E:=P.E) (d:=m.fv) (s:=s) (i:=i) (st:=M) hi hd hf ha;have a2:fQ m.fv:=⟨fh,fh⟩
 have hw:Vl Z (m.fv+1)=m.fv+1:=iw;go_enter func217,ntmps217;go_wp2_with(first | (go_at_call 220;refine(zt7 (st:=M) (h.fH gF) hi hd hf ha).mono ?_;rintro e w1 ⟨rfl,a1⟩;have a0:fy W w1:=fy.trans (b:=_) gF a1;obtain⟨b0,b1,b2,b3,b4,b5,_,_⟩:=oU (zj (Vj W (U #[C Z s.f,J Ac s.ft.length cc,J Al nl cl,C Z s.first,X s.iu,J Av nv cv] 253)) (fy.trans (b:=_) gF a1))) | (go_at_call 203;refine(zfL (h.fH a0) (Ty.up _ hc a0) hcl hln hb.1 hb.2 hl a2).mono ?_;rintro e w2 ⟨rfl,h2⟩;have H2:=fk (iv.from a0 h2);obtain⟨L2,h3,_⟩:=h2;obtain⟨_,_,_,_,_,_,_,_,_,_,_,y9,_,_,_,yf,yl⟩:=h3.cells;replace y9:Vg w2 ⟨P.g,9,I⟩=F (C Z m.fv):=y9;clear h3));exact Wp (v:=.tuple #[]) (by simp[VF,results217,go_sem]) rfl ⟨rfl,H2.out.num rfl (fun _ _ _ _ _ _ _ _ _=>rfl)⟩
theorem zud {L:D Nat} {s:fV} {i:Int} (h:kj P m rows W L)(hc:(zv.sl 3).R W W.heap.size [J Ad ft.length cd] ft)(hcl:ft.length<=1000)(hln:m.fx.length<=100000)
  (hi:0<=i/\i<=100) (hd : -1000000<=m.fv/\m.fv<=1000000) (hf : -1000<=s.first/\s.first<=1000) (ha:0<=P.E.args/\P.E.args<=100) (hl:fQ line) :
  VK prog 214 #[.pointer (F ⟨P.g,0,I⟩),.agg #[C Z s.f,J Ac s.ft.length cc,J Al nl cl,C Z s.first,X s.iu,J Av nv cv],C Z i,C Z line,J Ad ft.length cd] W fun r W'=>r=.returned (.tuple #[])/\iv P (ni P.E m s i line ft) rows W L W':=by
 have hb:=Jy (E:=P.E) (d:=m.fv) (s:=s) (i:=i) (st:=H) hi hd hf ha;have a2:fQ m.fv:=⟨fh,fh⟩
 have hw:Vl Z (m.fv-1)=m.fv-1:=iw;go_enter func214,ntmps214;go_wp2_with(first | (go_at_call 220;refine(zt7 (st:=H) (h.fH gF) hi hd hf ha).mono ?_;rintro e w1 ⟨rfl,a1⟩;have a0:fy W w1:=fy.trans (b:=_) gF a1;obtain⟨b0,b1,b2,b3,b4,b5,_,_⟩:=oU (zj (Vj W (U #[C Z s.f,J Ac s.ft.length cc,J Al nl cl,C Z s.first,X s.iu,J Av nv cv] 253)) (fy.trans (b:=_) gF a1))) | (go_at_call 203;refine(zfL (h.fH a0) (Ty.up _ hc a0) hcl hln hb.1 hb.2 hl a2).mono ?_;rintro e w2 ⟨rfl,h2⟩;have H2:=fk (iv.from a0 h2);obtain⟨L2,h3,_⟩:=h2;obtain⟨_,_,_,_,_,_,_,_,_,_,_,y9,_,_,_,yf,yl⟩:=h3.cells;replace y9:Vg w2 ⟨P.g,9,I⟩=F (C Z m.fv):=y9;clear h3));exact Wp (v:=.tuple #[]) (by simp[VF,results214,go_sem]) rfl ⟨rfl,H2.out.num rfl (fun _ _ _ _ _ _ _ _ _=>rfl)⟩
theorem zmX {L:D Nat} {v:Int} (h:kj P m rows W L)(hc:(zv.sl 3).R W W.heap.size [J Ad ft.length cd] ft)(hcl:ft.length<=1000)(hln:m.fx.length<=100000)
  (hv:fQ v) (hd : -1000000<=m.fv/\m.fv<=1000000) (hl:fQ line) :
  VK prog 211 #[.pointer (F ⟨P.g,0,I⟩),C Z v,C Z line,J Ad ft.length cd] W fun r W'=>r=.returned (.tuple #[])/\iv P (mx P.E m v line ft) rows W L W':=by
 have a1:fQ m.fv:=⟨fh,fh⟩
 have hw:Vl Z (m.fv+1)=m.fv+1:=iw;have a0:fQ 0:=⟨fh,fh⟩
 go_enter func211,ntmps211;go_wp2_with(first | (go_at_call 203;refine(zfL h hc hcl hln a0 hv hl a1).mono ?_;rintro e w2 ⟨rfl,h2⟩;have H2:=fk h2;obtain⟨L2,h3,_⟩:=h2;obtain⟨_,_,_,_,_,_,_,_,_,_,_,y9,_,_,_,yf,yl⟩:=h3.cells;replace y9:Vg w2 ⟨P.g,9,I⟩=F (C Z m.fv):=y9;clear h3));exact Wp (v:=.tuple #[]) (by simp[VF,results211,go_sem]) rfl ⟨rfl,H2.out.num rfl (fun _ _ _ _ _ _ _ _ _=>rfl)⟩
end Go.Proofs.YthgbglbaemelhaaGreat
