/-
  PART.
-/
import Derived.Test.YthgbglbaemelhaaGreatM17LawSlices
import Derived.Test.YthgbglbaemelhaaGreatM25LawSlices
set_option linter.unusedVariables false
set_option linter.unusedSimpArgs false
set_option maxRecDepth 100000
set_option maxHeartbeats 8000000
namespace Go.Proofs.YthgbglbaemelhaaGreat
open Value renaming slice->G,int->J,bool->H,string->V
open IntKind renaming i64->C,wrap->QP
open Option renaming none->D,some->Z
open Obj renaming cells->F
open Bool renaming false->I,true->M
open Go renaming World->U,results->Rd,Calls->Rh,Addr->Ri
open _root_.Int renaming toNat_natCast->Ra
open RowKit renaming intOf->Ry
open List renaming nil_append->RC,range'->TK
open Tryz
open Go.RowKit
variable {A:X Ri}{L:Q N}{c e i k:Nat}{p xs:Q fv}{s:N}{w:U}{x:fv}
theorem AN (k c:Int):(k == c)=decide (k=c):=by rw[Ut];simp
theorem n9 (k c:Int):(k != c) = !decide (k=c):=by rw[bne,AN]
def CO (k:Int):Bool:=(!decide (k=0)) && ((!decide (k=4)) && !decide (k=7))
theorem Ky {k:Int} (h:fT k 0 7=M):CO k=qX k:=by
 have h:=zu.1 h;have h2:k=0∨k=1∨k=2∨k=3∨k=4∨k=5∨k=6∨k=7:=by omega
 rcases h2 with rfl | rfl | rfl | rfl | rfl | rfl | rfl | rfl <;> rfl
theorem Nk (k:Int)(w:U):Rh prog 188 #[J C k] w fun e w'=>e=.returned (H (CO k))/\ft w w':=by
 go_enter func188,ntmps188;go_wp2_with(fail)
 all_goals
  go_ret
  refine⟨zo ?_,gG⟩
  unfold CO
  simp_all [n9]
theorem Md {xs:Q N} {x:N} (h:xs[k]?=Z x):qy (xs.take k) (xs.drop k)=(kU x && (!(jA (xs.take k) x) && qy (xs.take (k+1)) (xs.drop (k+1)))):=by
 obtain⟨h1,rfl⟩:=QM.1 h;rw[Q6 h1,qy,RH,h];rfl
theorem LY (h:fT x.Kind 0 7=I):oh x=I:=by unfold oh;rw[h];rfl
theorem yT (h:px x=I):oh x=I:=by unfold oh;rw[h];cases fT x.Kind 0 7 <;> cases vR x <;> rfl
theorem KE (h:4<x.fM.length):px x=I:=by
 unfold px yi;split
 ·rw[QT (by omega)];rfl
 ·exact QT (by omega)
theorem EK (h:x.Kind≠0)(hl:0<x.fM.length):px x=I:=by
 unfold px;rw[QZ h];exact QT (by omega)
theorem Me (h:x.Kind=0)(hg:qy [] x.fM=I):px x=I:=by
 unfold px yi;rw[Q5 h,hg,US]
theorem Fj (hl:0<x.fM.length)(hg:qy [] x.fM=I):px x=I:=by
 by_cases h:x.Kind=0
 ·exact Me h hg
 ·exact EK h hl
theorem LO (h4:x.fM.length<=4)(h:0<x.fM.length->x.Kind=0)(hg:qy [] x.fM=M):px x=M:=by
 unfold px yi;split
 ·rw[QY h4,hg];rfl
 ·rename_i hk
  exact QY (by
   rcases Ue x.fM.length with h1 | h1
   ·exact h1
   ·exact absurd (h h1) hk)
theorem FX {xs:Q N} {y:N} (h:xs[i]?=Z y):jA (xs.take (i+1)) s=(jA (xs.take i) s || decide (y=s)):=by
 unfold jA;rw[RH,h];simp
theorem O1 {xs:Q N} (h:i<=k)(hh:jA (xs.take i) s=M):jA (xs.take k) s=M:=by
 unfold jA at *
 rw[SR] at *
 obtain⟨y,hy,he⟩:=hh;exact⟨y,(List.take_sublist_take_left h).subset hy,he⟩
theorem uw {g:Prop} (f:g:=by
  go_wp2_with(first | (go_at_call 133;(with_reducible refine(qT _ _ bx).mono ?_);rw[HN.out];rintro e w1 ⟨rfl,rfl⟩))
  all_goals exact QU (v:=H I) (by simp[Rd,results158,go_sem]) rfl ⟨by rw[HF.out],hgr.trans (hG.out.trans gF)⟩):g:=f
theorem ziD {A0 A1:X Ri} {c0 c1:Nat} (b1:x.Name.size<=9223372036854775807)(h2:(iH.sl 9).R w w.heap.size [G A0 x.fM.length c0] x.fM)(h3:(iZ.sl 160).R w w.heap.size [G A1 x.Expr.length c1] x.Expr)(hl2:x.fM.length<=1099511627776)(hl3:x.Expr.length<=1099511627776) :
  Rh prog 158 #[.agg #[J C x.Kind,V x.Name,G A0 x.fM.length c0,G A1 x.Expr.length c1]] w fun e w'=>e=.returned (H (oh x))/\ft w w':=by
 have hgr:ft w (w.alloc (F #[J C x.Kind,V x.Name,G A0 x.fM.length c0,G A1 x.Expr.length c1] 99)):=gF;obtain⟨y0,y1,y2,y3,_,yl⟩:=iJ (QO w (F #[J C x.Kind,V x.Name,G A0 x.fM.length c0,G A1 x.Expr.length c1] 99));rcases RB (fT x.Kind 0 7) with hb | hb
 rotate_left
 ·have HB:=fh hb
  have HF:=fh (LY hb);clear hb;go_enter func158,ntmps158;go_wp2_with(first | (go_at_call 43;(with_reducible refine(gY _ _ _ _).mono ?_);rw[HB.out];rintro e w1 ⟨rfl,rfl⟩));exact QU (v:=H I) (by simp[Rd,results158,go_sem]) rfl ⟨by rw[HF.out],hgr.trans gF⟩
 have HB:=fh hb;clear hb;by_cases h4:4<x.fM.length
 ·have HF:=fh (yT (KE h4))
  have a7:decide ((x.fM.length:Int) > 4)=M:=QY (by omega);clear h4;go_enter func158,ntmps158;go_wp2_with(first | (go_at_call 43;(with_reducible refine(gY _ _ _ _).mono ?_);rw[HB.out];rintro e w1 ⟨rfl,rfl⟩))
  all_goals exact QU (v:=H I) (by simp[Rd,results158,go_sem]) rfl ⟨by rw[HF.out],hgr.trans gF⟩
 have a7:¬ ((x.fM.length:Int) > 4):=by omega
 have ae:¬ (4<(x.fM.length:Int)):=by omega
 obtain⟨q0,k0⟩:∃ q,(x.Kind == 0)=q:=⟨_,rfl⟩
 have n0:(x.Kind != 0) = !q0:=by rw[bne,k0]
 go_enter func158,ntmps158;go_wp2_with(first | (go_at_call 43;(with_reducible refine(gY _ _ _ _).mono ?_);rw[HB.out];rintro e w1 ⟨rfl,rfl⟩));go_loopw [3] (fun j wr=>∃(k:Nat),j=J C k/\k<=x.fM.length/\Hid (ft (w.alloc (F #[J C x.Kind,V x.Name,G A0 x.fM.length c0,G A1 x.Expr.length c1] 99)) wr)/\Hid (qy (x.fM.take k) (x.fM.drop k)=qy [] x.fM)/\Hid (0<k->q0=M)) (fun j _=>x.fM.length-(Ry j).toNat)
 case atStart=>exact⟨0,rfl,QX _,fh gF,fh rfl,fh (by omega)⟩
 case round=>
  obtain⟨k,rfl,hk,hG,hE,hq⟩:=hrel;have u0:=za hG.out y0;have u1:=za hG.out y1;have u2:=za hG.out y2;have u3:=za hG.out y3;by_cases hlt:k<x.fM.length
  ·obtain⟨g,ag,s,rfl,a2,x0,bx⟩:=vP h2 hlt
   have aa:(k:Int)<(x.fM.length:Int):=by omega
   have ux:=za (hgr.trans hG.out) x0;have HA:=fh (Md a2);have ad:=fh a2;clear a2;rcases RB (kU s) with hn | hn
   rotate_left
   ·have HN:=fh hn
    have HF:Hid (oh x=I):=fh (yT (Fj (by omega) (by rw[<-hE.out,HA.out,hn];rfl)));clear hn;exact uw
   have HN:=fh hn;clear hn;cases q0 with
   | false=>
    have HF:Hid (oh x=I):=fh (yT (EK (QV.1 k0) (by omega)));exact uw
   | true=>
    go_wp2_with(first | (go_at_call 133;(with_reducible refine(qT _ _ bx).mono ?_);rw[HN.out];rintro e w1 ⟨rfl,rfl⟩));go_loopw [4] (fun j wi=>∃(i:Nat),j=J C i/\i<=k/\Hid (ft wr wi)/\Hid (jA (x.fM.take i) s=I)) (fun j _=>k-(Ry j).toNat)
    case atStart=>exact⟨0,rfl,QX _,fh gF,fh rfl⟩
    case round=>
     obtain⟨i,rfl,hi,a0,a3⟩:=hrel;have v0:=za (hG.out.trans a0.out) y0;have v1:=za (hG.out.trans a0.out) y1;have v2:=za (hG.out.trans a0.out) y2;have v3:=za (hG.out.trans a0.out) y3;have vx:=za ((hgr.trans hG.out).trans a0.out) x0;by_cases hik:i<k
     ·obtain⟨g2,ac,r,a1,a5,r0,br⟩:=vP h2 (show i<x.fM.length by omega)
      injection a1 with a1
      injection a1 with e1 e2
      subst e1 e2;have vr:=za ((hgr.trans hG.out).trans a0.out) r0;have a9:(i:Int)<(k:Int):=by omega
      have af:(i:Int)<(x.fM.length:Int):=by omega
      have HR:=fh a5;clear a5;by_cases hs:r=s
      ·have HF:Hid (oh x=I):=fh (yT (Fj (by omega) (by rw[<-hE.out,HA.out,O1 (i:=i+1) (by omega) (by rw[FX HR.out,hs];simp)];simp)))
       have ab:(r.toList == s.toList)=M:=by rw[lp];simp[hs]
       clear hs;go_wp2_with(fail);go_quiet (fail);go_wp2_with(fail)
       all_goals exact QU (v:=H I) (by simp[Rd,results158,go_sem]) rfl ⟨by rw[HF.out],hgr.trans (hG.out.trans (a0.out.trans gF))⟩
      ·have HF:Hid (jA (x.fM.take (i+1)) s=I):=fh (by rw[FX HR.out,a3.out];simp[hs])
       have ab:(r.toList == s.toList)=I:=by rw[lp];simp[hs]
       clear hs;go_wp2_with(fail);go_quiet (fail);go_wp2_with(fail);go_roundw;exact⟨i+1,by go_num,by omega,fh (a0.out.trans gF),HF⟩;exact gH
     ·obtain rfl:i=k:=by omega
      have a9:¬ ((i:Int)<(i:Int)):=by omega
      have HF:Hid (qy (x.fM.take (i+1)) (x.fM.drop (i+1))=qy [] x.fM):=fh (by rw[<-hE.out,HA.out,HN.out,a3.out];rfl);go_wp2_with(fail);go_roundw;exact⟨i+1,by go_num,by omega,fh (hG.out.trans (a0.out.trans gF)),HF,fh (by simp)⟩;exact gH
  ·obtain rfl:k=x.fM.length:=by omega
   have aa:¬ ((x.fM.length:Int)<(x.fM.length:Int)):=by omega
   have HF:Hid (oh x=(vR x && rp x)):=fh (by
    unfold oh;rw[HB.out,LO (by omega) (fun h=>by have:=hq.out h;rw[this] at k0;exact Rt.1 k0) (by rw[<-hE.out,Rq];rfl)]
    simp)
   have a6:=fh (Ky HB.out);have hgr:=hgr.trans hG.out;obtain⟨q1,k1⟩:∃ q,(x.Kind == 1)=q:=⟨_,rfl⟩
   clear hq hE;cases q0 <;> cases q1
   all_goals
    go_wp2_with(first | (go_at_call 133;(with_reducible refine(qT _ _ b1).mono ?_);rintro e w1 ⟨rfl,rfl⟩) | (go_at_call 188;(with_reducible refine(Nk _ _).mono ?_);rw[a6.out];rintro e v2 ⟨rfl,a4⟩;have hgr:=hgr.trans (ft.trans (b:=_) gF a4);have u3:=za (ft.trans (b:=_) gF a4) u3) | (go_at_call 189;(with_reducible refine(zkN (Ty.up _ h3 (hgr.trans gF)) hl3).mono ?_);rintro e v3 ⟨rfl,a8⟩;have hgr:=hgr.trans (ft.trans (b:=_) gF a8)))
   all_goals
    go_ret
    refine⟨zo ?_,hgr.trans gF⟩
    rw[HF.out]
    clear hgr
    unfold vR rp
    simp_all [AN,n9,Hp]
theorem wR (k:Int)(w:U):Rh prog 190 #[J C k] w fun e w'=>e=.returned (H (np k))/\w=w':=by
 go_enter func190,ntmps190;go_wp2_with(fail)
 all_goals
  go_ret
  refine⟨zo ?_,rfl⟩
  unfold np
  simp_all [AN]
theorem rI {g:Prop} (f:g:=by
  have HF:Hid (iN xs a=(i:Int)):=fh (by rw[<-hE.out,xA HX.out,Q5 (by rw[HD.out];omega)])
  clear hz
  go_wp2_with(first | (go_at_call 190;(with_reducible refine(wR _ _).mono ?_);rw[HO.out];rintro e w1 ⟨rfl,rfl⟩))
  exact QU (v:=J C (i:Int)) (by simp[Rd,results160,go_sem]) rfl ⟨by rw[HF.out],hG.out.trans gF⟩):g:=f
theorem uK {g:Prop} (f:g:=by
  go_enter func160,ntmps160
  go_wp2_with(first | fail)
  all_goals exact QU (v:=J C (-1)) (by simp[Rd,results160,go_sem]) rfl ⟨by rw[HF.out],gF⟩):g:=f
theorem zbi {k:Int} (hx:(zJ.sl 99).R w w.heap.size [G A xs.length c] xs)(hl:xs.length<=1099511627776) :
  Rh prog 160 #[G A xs.length c,J C k] w fun e w'=>e=.returned (J C (iN xs k))/\ft w w':=by
 have au:QP C ((xs.length:Int)-1)=(xs.length:Int)-1:=iw;by_cases hk:k<0
 ·have HF:Hid (iN xs k = -1):=fh (Gt hk)
  exact uK
 obtain⟨a,rfl⟩:∃ a:Nat,k=(a:Int):=⟨k.toNat,by omega⟩
 have an:¬ ((a:Int)<0):=hk;clear hk;by_cases hal:a<xs.length
 rotate_left
 ·have HF:Hid (iN xs a = -1):=fh (by
   unfold iN
   rw[QZ (by omega),Ra,Tb (by omega)])
  have al:(a:Int)≥(xs.length:Int):=by omega
  have a8:(xs.length:Int)<=(a:Int):=by omega
  clear hal;exact uK
 obtain⟨g,av,y,ab,af,ac,ag,rfl,ak,a1,y0,y1,y2,y3,b0,_,_,_⟩:=lK hx hal;have aj:(a:Int)<(xs.length:Int):=by omega
 have a5:¬ ((a:Int)≥(xs.length:Int)):=by omega
 have a6:¬ ((xs.length:Int)<=(a:Int)):=by omega
 rcases RB (np y.Kind) with ho | ho
 rotate_left
 ·have HO:=fh ho
  have HF:Hid (iN xs a = -1):=fh (by
   unfold iN;rw[QZ (by omega),Ra,a1];simp only[ho]
   rfl)
  clear ho a1;go_enter func160,ntmps160;go_wp2_with(first | (go_at_call 190;(with_reducible refine(wR _ _).mono ?_);rw[HO.out];rintro e w1 ⟨rfl,rfl⟩))
  all_goals exact QU (v:=J C (-1)) (by simp[Rd,results160,go_sem]) rfl ⟨by rw[HF.out],gF⟩
 have a4:=fh ho
 have HE:Hid (rm (xs.drop a) 0 a=iN xs a):=fh (by
  unfold iN;rw[QZ (by omega),Ra,a1]
  simp only[ho,Tk])
 clear ho a1;go_enter func160,ntmps160;go_wp2_with(first | (go_at_call 190;(with_reducible refine(wR _ _).mono ?_);rw[a4.out];rintro e w1 ⟨rfl,rfl⟩));go_loopw [5,6] (fun z j wr=>∃(o:Int) (i:Nat),z=J C o/\j=J C i/\a<=i/\i<=xs.length/\-(i:Int)<=o/\o<=(i:Int)/\Hid (ft w wr)/\Hid (rm (xs.drop i) o i=iN xs a)) (fun _ j _=>xs.length-(Ry j).toNat)
 case atStart=>exact⟨0,a,rfl,rfl,Q8 _,by omega,by omega,by omega,fh gF,HE⟩
 case round=>
  obtain⟨o,i,rfl,rfl,a7,am,ao,ap,hG,hE⟩:=hrel;by_cases hlt:i<xs.length
  ·obtain⟨g2,aa,x,ad,ah,ae,ai,a2,_,a3,x0,_,_,_,_,_,_,_⟩:=lK hx hlt
   injection a2 with a2
   injection a2 with e1 e2
   subst e1 e2;have a9:(i:Int)<(xs.length:Int):=by omega
   have HX:=fh a3;have vx:=za hG.out x0;clear a3 x0;have aq:QP C (o+1)=o+1:=iw;have ar:QP C (o-1)=o-1:=iw;rcases wF x with⟨q1,q2⟩ | ⟨q1,q3,q2⟩ | ⟨q1,q3,q2⟩
   ·have HO:=fh q1
    have HD:=fh q2;have h7:(x.Kind == 7)=I:=QV.2 (fun h=>by rw[h] at q1;cases q1);clear q1 q2;by_cases hz:o+1=0
    ·have a0:(o+1 == 0)=M:=Rt.2 hz
     exact rI
    ·have a0:(o+1 == 0)=I:=QV.2 hz
     have HF:Hid (rm (xs.drop (i+1)) (o+1) (i+1)=iN xs a):=fh (by rw[<-hE.out,xA HX.out,QZ (by rw[HD.out];omega),show o+kR x=o+1 from by have h:=HD.out;omega]);clear hz;go_wp2_with(first | (go_at_call 190;(with_reducible refine(wR _ _).mono ?_);rw[HO.out];rintro e w1 ⟨rfl,rfl⟩));go_roundw;exact⟨o+1,i+1,by go_num,by go_num,by omega,by omega,by omega,by omega,fh (hG.out.trans gF),HF⟩;exact gH
   ·have HO:=fh q1
    have HD:=fh q2;have h7:(x.Kind == 7)=M:=Rt.2 q3;clear q1 q2 q3;by_cases hz:o-1=0
    ·have a0:(o-1 == 0)=M:=Rt.2 hz
     exact rI
    ·have a0:(o-1 == 0)=I:=QV.2 hz
     have HF:Hid (rm (xs.drop (i+1)) (o-1) (i+1)=iN xs a):=fh (by rw[<-hE.out,xA HX.out,QZ (by rw[HD.out];omega),show o+kR x=o-1 from by have h:=HD.out;omega]);clear hz;go_wp2_with(first | (go_at_call 190;(with_reducible refine(wR _ _).mono ?_);rw[HO.out];rintro e w1 ⟨rfl,rfl⟩));go_roundw;exact⟨o-1,i+1,by go_num,by go_num,by omega,by omega,by omega,by omega,fh (hG.out.trans gF),HF⟩;exact gH
   ·have HO:=fh q1
    have HD:=fh q2;have h7:(x.Kind == 7)=I:=QV.2 q3;clear q1 q2 q3;by_cases hz:o=0
    ·have a0:(o == 0)=M:=Rt.2 hz
     exact rI
    ·have a0:(o == 0)=I:=QV.2 hz
     have HF:Hid (rm (xs.drop (i+1)) (o) (i+1)=iN xs a):=fh (by rw[<-hE.out,xA HX.out,QZ (by rw[HD.out];omega),show o+kR x=o from by have h:=HD.out;omega]);clear hz;go_wp2_with(first | (go_at_call 190;(with_reducible refine(wR _ _).mono ?_);rw[HO.out];rintro e w1 ⟨rfl,rfl⟩));go_roundw;exact⟨o,i+1,by go_num,by go_num,by omega,by omega,by omega,by omega,fh (hG.out.trans gF),HF⟩;exact gH
  ·obtain rfl:i=xs.length:=by omega
   have a9:¬ ((xs.length:Int)<(xs.length:Int)):=by omega
   have HF:Hid (iN xs a = -1):=fh (by rw[<-hE.out,Rq];rfl);go_wp2_with(fail);exact QU (v:=J C (-1)) (by simp[Rd,results160,go_sem]) rfl ⟨by rw[HF.out],hG.out.trans gF⟩
theorem Cg (h:xs[i]?=Z x)(s:N)(j:Nat):og (xs.drop i) s j=if x.Kind=0/\x.Name=s then (j:Int) else og (xs.drop (i+1)) s (j+1):=by
 obtain⟨h1,rfl⟩:=QM.1 h;rw[Q6 h1];rfl
theorem FV (h:xs[i]?=Z x)(j:Nat):lf (xs.drop i) j=if x.Kind=0 then (j:Int)::lf (xs.drop (i+1)) (j+1) else lf (xs.drop (i+1)) (j+1):=by
 obtain⟨h1,rfl⟩:=QM.1 h;rw[Q6 h1];rfl
theorem uu {g:Prop} (f:g:=by
  clear h
  go_wp2_with(first | (go_at_call 160;(with_reducible refine(zbi (Ty.up _ hx (hG.out.trans gF)) hl).mono ?_);rw[HE2.out];rintro e2 v2 ⟨rfl,hg2⟩))
  go_roundw
  exact⟨e'+1,n-1,by go_num,by omega,by omega,by omega,fh (hG.out.trans (ft.trans (b:=_) gF (hg2.trans gF))),HF⟩
  exact gH):g:=f
theorem zgI {k:Int} (hx:(zJ.sl 99).R w w.heap.size [G A xs.length c] xs)(hl:xs.length<=1099511627776) :
  Rh prog 192 #[G A xs.length c,J C k] w fun e w'=>e=.returned (J C (kh xs k))/\ft w w':=by
 rcases vJ xs k with he | ⟨a,e,rfl,he,a0⟩
 ·have HE:=fh he
  have HF:Hid (kh xs k = -1):=fh (by unfold kh;rw[Q5 (by omega)]);clear he;go_enter func192,ntmps192;go_wp2_with(first | (go_at_call 160;(with_reducible refine(zbi hx hl).mono ?_);rw[HE.out];rintro e1 v1 ⟨rfl,a3⟩))
  all_goals exact QU (v:=J C (-1)) (by simp[Rd,results192,go_sem]) rfl ⟨by rw[HF.out],a3.trans gF⟩
 have HE:=fh he;have ae:=a0.len;have ao:=a0.lt;obtain⟨g,ay,y,ag,ak,ah,al,rfl,av,a5,y0,_,_,_,b0,_,_,_⟩:=lK hx (show a<xs.length by omega);have ap:(a:Int)<(xs.length:Int):=by omega
 have au:¬ ((e:Int)<0):=by omega
 have aw:QP C ((a:Int)+1)=(a:Int)+1:=iw;by_cases h3:y.Kind=3
 rotate_left
 ·have HF:Hid (kh xs a = -1):=fh (by
   unfold kh;rw[he,QZ (by omega),Ra,a5];simp only
   rw[QZ h3])
  have aa:(y.Kind != 3)=M:=by rw[n9,QT h3];rfl
  clear he a5 h3;go_enter func192,ntmps192;go_wp2_with(first | (go_at_call 160;(with_reducible refine(zbi hx hl).mono ?_);rw[HE.out];rintro e1 v1 ⟨rfl,a3⟩;have u0:=za a3 y0))
  all_goals exact QU (v:=J C (-1)) (by simp[Rd,results192,go_sem]) rfl ⟨by rw[HF.out],a3.trans gF⟩
 have HS:Hid (oO xs xs.length (a+1) e=kh xs a):=fh (by
  unfold kh;rw[he,QZ (by omega),Ra,a5];simp only
  rw[Q5 h3])
 have aa:(y.Kind != 3)=I:=by rw[n9,QY h3];rfl
 clear he a5 h3;go_enter func192,ntmps192;go_wp2_with(first | (go_at_call 160;(with_reducible refine(zbi hx hl).mono ?_);rw[HE.out];rintro e1 v1 ⟨rfl,a3⟩;have u0:=za a3 y0));go_loopw [6] (fun j wr=>∃(i n:Nat),j=J C i/\a<i/\i<=e/\e-i<n/\Hid (ft w wr)/\Hid (oO xs n i e=kh xs a)) (fun j _=>e-(Ry j).toNat)
 case atStart=>exact⟨a+1,xs.length,by go_num,by omega,by omega,by omega,fh (a3.trans gF),HS⟩
 case round=>
  obtain⟨i,n,rfl,a2,a8,hn,hG,hE⟩:=hrel;by_cases hlt:i<e
  ·obtain⟨g2,af,x,ai,am,aj,an,a6,_,a4,x0,_,_,_,_,_,_,_⟩:=lK hx (show i<xs.length by omega)
   injection a6 with a6
   injection a6 with e1 e2
   subst e1 e2;have a9:(i:Int)<(e:Int):=by omega
   have ab:(i:Int)<(xs.length:Int):=by omega
   have vx:=za hG.out x0;have a1:=Cm a0 n i a2 a8 hn;rw[Q5 a9,a4] at a1;simp only at a1;by_cases h35:x.Kind=3∨x.Kind=5
   ·rw[Q5 h35] at a1
    obtain⟨e',a7,ac,ad⟩:=a0.inner a2 hlt a4 (by rcases h35 with h | h <;> rw[h] <;> decide);have HE2:=fh a7.iS;have HF:Hid (oO xs (n-1) (e'+1) e=kh xs a):=fh (by rw[<-hE.out,a1,HE2.out,Ra]);have ax:QP C ((e':Int)+1)=(e':Int)+1:=iw;have aq:(e':Int)≥0:=by omega
    have ar:(0:Int)≥0:=by omega
    clear a1 a4 x0;rcases h35 with h | h
    ·have q4:(x.Kind == 4)=I:=QV.2 (by rw[h];decide)
     have q3:(x.Kind == 3)=M:=Rt.2 h;exact uu
    ·have q4:(x.Kind == 4)=I:=QV.2 (by rw[h];decide)
     have q3:(x.Kind == 3)=I:=QV.2 (by rw[h];decide);have q5:(x.Kind == 5)=M:=Rt.2 h;exact uu
   ·rw[QZ h35] at a1
    have q3:(x.Kind == 3)=I:=QV.2 (fun h=>h35 (.inl h));have q5:(x.Kind == 5)=I:=QV.2 (fun h=>h35 (.inr h));by_cases h4:x.Kind=4
    ·rw[Q5 h4] at a1
     have HF:Hid (kh xs a=(i:Int)):=fh (by rw[<-hE.out,a1]);have q4:(x.Kind == 4)=M:=Rt.2 h4;clear a1 a4 x0 h4 h35;go_wp2_with(fail);exact QU (v:=J C (i:Int)) (by simp[Rd,results192,go_sem]) rfl ⟨by rw[HF.out],hG.out.trans gF⟩
    ·rw[QZ h4] at a1
     have HF:Hid (oO xs (n-1) (i+1) e=kh xs a):=fh (by rw[<-hE.out,a1]);have q4:(x.Kind == 4)=I:=QV.2 h4;clear a1 a4 x0 h4 h35;go_wp2_with(fail);go_roundw;exact⟨i+1,n-1,by go_num,by omega,by omega,by omega,fh (hG.out.trans gF),HF⟩;exact gH
  ·obtain rfl:i=e:=by omega
   have a9:¬ ((i:Int)<(i:Int)):=by omega
   have HF:Hid (kh xs a = -1):=fh (by rw[<-hE.out,Cm a0 n i a2 a8 hn,QZ (by omega)]);go_wp2_with(fail);exact QU (v:=J C (-1)) (by simp[Rd,results192,go_sem]) rfl ⟨by rw[HF.out],hG.out.trans gF⟩
theorem vz {g:Prop} (f:g:=by
  go_wp2_with(fail)
  go_roundw
  exact⟨i+1,by go_num,by omega,fh (hG.out.trans gF),HF⟩
  exact gH):g:=f
theorem zcY (hx:(zJ.sl 99).R w w.heap.size [G A xs.length c] xs)(hl:xs.length<=1099511627776) :
  Rh prog 159 #[G A xs.length c,V s] w fun e w'=>e=.returned (J C (kz xs s))/\ft w w':=by
 go_enter func159,ntmps159;go_wp2_with(fail);go_loopw [5] (fun j wr=>∃(i:Nat),j=J C i/\i<=xs.length/\Hid (ft w wr)/\Hid (og (xs.drop i) s i=kz xs s)) (fun j _=>xs.length-(Ry j).toNat)
 case atStart=>exact⟨0,rfl,QX _,fh gF,fh rfl⟩
 case round=>
  obtain⟨i,rfl,hi,hG,hE⟩:=hrel;by_cases hlt:i<xs.length
  ·obtain⟨g,a8,x,a3,a5,a4,a6,rfl,a7,a0,x0,x1,x2,x3,b0,b1,_,_⟩:=lK hx hlt
   have a1:(i:Int)<(xs.length:Int):=by omega
   have v0:=za hG.out x0;have v1:=za hG.out x1;have v2:=za hG.out x2;have v3:=za hG.out x3;have HX:=fh a0;clear a0 x0 x1 x2 x3;by_cases h0:x.Kind=0
   ·have q0:(x.Kind == 0)=M:=Rt.2 h0
    by_cases hs:x.Name=s
    ·have HF:Hid (kz xs s=(i:Int)):=fh (by rw[<-hE.out,Cg HX.out,Q5 ⟨h0,hs⟩])
     have a2:(x.Name.toList == s.toList)=M:=by rw[lp];simp[hs]
     clear h0 hs;go_wp2_with(fail);exact QU (v:=J C (i:Int)) (by simp[Rd,results159,go_sem]) rfl ⟨by rw[HF.out],hG.out.trans gF⟩
    ·have a2:(x.Name.toList == s.toList)=I:=by rw[lp];simp[hs]
     have HF:Hid (og (xs.drop (i+1)) s (i+1)=kz xs s):=fh (by rw[<-hE.out,Cg HX.out,QZ (fun h=>hs h.2)]);clear h0 hs;exact vz
   ·have q0:(x.Kind == 0)=I:=QV.2 h0
    have HF:Hid (og (xs.drop (i+1)) s (i+1)=kz xs s):=fh (by rw[<-hE.out,Cg HX.out,QZ (fun h=>h0 h.1)]);clear h0;exact vz
  ·obtain rfl:i=xs.length:=by omega
   have a1:¬ ((xs.length:Int)<(xs.length:Int)):=by omega
   have HF:Hid (kz xs s = -1):=fh (by rw[<-hE.out,Rq];rfl);go_wp2_with(fail);exact QU (v:=J C (-1)) (by simp[Rd,results159,go_sem]) rfl ⟨by rw[HF.out],hG.out.trans gF⟩
theorem zbB (hx:(zJ.sl 99).R w w.heap.size [G A xs.length c] xs)(hl:xs.length<=1099511627776) :
  Rh prog 106 #[G A xs.length c] w (kJ (zp xs) w):=by
 go_enter func106,ntmps106;go_wp2_with(fail);go_loopw [3,4] (fun z j wr=>∃(i:Nat) (A5:X Ri) (n5 c5:Nat) (S:Q Nat) (a0:Q Int),z=G A5 a0.length c5/\j=J C i/\i<=xs.length/\a0.length<=i/\Hid (ft w wr)/\Hid (Has (zr.sl 3) wr [G A5 a0.length c5] a0 S)/\Hid (∀ b∈S,w.heap.size<=b)/\Hid (a0++lf (xs.drop i) i=zp xs)) (fun _ j _=>xs.length-(Ry j).toNat)
 case atStart=>exact⟨0,_,0,0,[w.heap.size],[],rfl,rfl,QX _,QX _,fh gF,fh (Has.emp zr (zj (QO _ _) gF)),fh (fun b hb=>by simp only[QN] at hb;omega),fh rfl⟩
 case round=>
  obtain⟨i,A5,n5,c5,S,a0,rfl,rfl,hi,a4,hG,hH,hS,hE⟩:=hrel;by_cases hlt:i<xs.length
  ·obtain⟨g,ad,x,a7,a9,a8,aa,rfl,ab,a1,x0,x1,x2,x3,b0,b1,_,_⟩:=lK hx hlt
   have a5:(i:Int)<(xs.length:Int):=by omega
   have v0:=za hG.out x0;have v1:=za hG.out x1;have v2:=za hG.out x2;have v3:=za hG.out x3;have HX:=fh a1;clear a1 x0 x1 x2 x3;by_cases h0:x.Kind=0
   ·have q0:(x.Kind == 0)=M:=Rt.2 h0
    have HF:Hid (a0++[(i:Int)]++lf (xs.drop (i+1)) (i+1)=zp xs):=fh (by rw[<-hE.out,FV HX.out,Q5 h0];simp);clear h0;go_wp2_with(first | (refine zA (W1:=w) (L:=a0.length+1) rfl (.tmp 18) (.tmp 20) mg zD (S:=S) (hH.out.fx gF) (ec:=[J C (i:Int)]) (y:=(i:Int)) (B:=0) ⟨rfl,by omega,by omega⟩ rfl rfl rfl (by intro j u hu;simpa[go_sem] using hu) rfl (by omega) (by omega) ?_;intro A8 c8 W8 S8 a6 a2 a3));go_roundw
    case measure=>exact gH
    case rel=>
     have ac:=hG.out.size;refine⟨i+1,A8,0,c8,S8,a0++[(i:Int)],by simp,by go_num,by omega,by simp;omega,fh (a6.fx (hG.out.trans gF) hS.out),fh (by rw[QR];exact a2),fh (fun b hb=>?_),HF⟩;rcases a3 b hb with h | h
     ·exact hS.out b h
     ·(try simp at h);omega
   ·have q0:(x.Kind == 0)=I:=QV.2 h0
    have HF:Hid (a0++lf (xs.drop (i+1)) (i+1)=zp xs):=fh (by rw[<-hE.out,FV HX.out,QZ h0]);clear h0;go_wp2_with(fail);go_roundw;exact⟨i+1,A5,0,c5,S,a0,rfl,by go_num,by omega,by omega,fh (hG.out.trans gF),fh (hH.out.fx gF),hS,HF⟩;exact gH
  ·obtain rfl:i=xs.length:=by omega
   have a5:¬ ((xs.length:Int)<(xs.length:Int)):=by omega
   have HF:Hid (a0=zp xs):=fh (by have h:=hE.out;rw[Rq,lf,SC] at h;exact h);go_wp2_with(fail);refine QU (v:=G A5 a0.length c5) (by simp[Rd,results106,go_sem]) rfl ?_;rw[<-HF.out];exact⟨A5,c5,S,rfl,hH.out,hS.out,hG.out⟩
def Ps (xs:Q N)(w:U)(r:Ending)(w':U):Prop:=∃ A c S,r=.returned (G A xs.length c)/\Has (iH.sl 9) w' [G A xs.length c] xs S/\(∀ b∈S,w.heap.size<=b)/\ft w w'
theorem BJ (h:xs[i]?=Z x)(hl:i<e)(acc:Q N):oF (xs.drop i) (e-i) acc=oF (xs.drop (i+1)) (e-(i+1)) (qU acc x):=by
 obtain⟨h1,rfl⟩:=QM.1 h;rw[Q6 h1,show e-i=(e-(i+1))+1 from by omega];rfl
theorem zh0 {k:Int} (hx:(zJ.sl 99).R w w.heap.size [G A xs.length c] xs)(hl:xs.length<=1099511627776)(hs:∀ x∈xs,x.fM.length<=1099511627776/\x.Expr.length<=1099511627776) :
  Rh prog 191 #[G A xs.length c,J C k] w (Ps (zq xs k) w):=by
 rcases vJ xs k with he | ⟨a,e,rfl,he,a2⟩
 ·have HE:=fh he
  have HF:Hid (zq xs k = []):=fh (by unfold zq;rw[Q5 (by omega)]);clear he;go_enter func191,ntmps191;go_wp2_with(first | (go_at_call 160;(with_reducible refine(zbi hx hl).mono ?_);rw[HE.out];rintro e1 v1 ⟨rfl,a1⟩))
  all_goals (refine QU (v:=G (Z ⟨v1.heap.size,0,D⟩) 0 0) (by simp[Rd,results191,go_sem]) rfl ?_;exact⟨Z ⟨v1.heap.size,0,D⟩,0,[v1.heap.size],by rw[HF.out];rfl,by rw[HF.out];exact Has.emp iH (QO _ _),fun b hb=>(by simp only[QN] at hb;subst hb;exact a1.size),a1.trans gF⟩)
 have HE:=fh he;have al:=a2.len;have az:=a2.lt;obtain⟨g,aF,y,ap,av,aq,aw,rfl,a8,a4,y0,y1,y2,y3,b0,_,h2,_⟩:=lK hx (show a<xs.length by omega);have aA:(a:Int)<(xs.length:Int):=by omega
 have aB:¬ ((e:Int)<0):=by omega
 have hy:=(hs y (Q9 a4)).1;by_cases h0:y.Kind=0
 rotate_left
 ·have HF:Hid (zq xs a = []):=fh (by
   unfold zq;rw[he,QZ (by omega),Ra,a4];simp only
   rw[QZ h0])
  have aa:(y.Kind != 0)=M:=by rw[n9,QT h0];rfl
  clear he a4 h0;go_enter func191,ntmps191;go_wp2_with(first | (go_at_call 160;(with_reducible refine(zbi hx hl).mono ?_);rw[HE.out];rintro e1 v1 ⟨rfl,a1⟩;have u0:=za a1 y0;have u2:=za a1 y2;have ah:=QS a8 a1.size))
  all_goals (refine QU (v:=G (Z ⟨v1.heap.size,0,D⟩) 0 0) (by simp[Rd,results191,go_sem]) rfl ?_;exact⟨Z ⟨v1.heap.size,0,D⟩,0,[v1.heap.size],by rw[HF.out];rfl,by rw[HF.out];exact Has.emp iH (QO _ _),fun b hb=>(by simp only[QN] at hb;subst hb;exact a1.size),a1.trans gF⟩)
 have HS:Hid (oF (xs.drop a) (e-a) y.fM=zq xs a):=fh (by
  unfold zq;rw[he,QZ (by omega),Ra,Ra,a4];simp only
  rw[Q5 h0])
 have aa:(y.Kind != 0)=I:=by rw[n9,QY h0];rfl
 clear he a4 h0;go_enter func191,ntmps191;go_wp2_with(first | (go_at_call 160;(with_reducible refine(zbi hx hl).mono ?_);rw[HE.out];rintro e1 v1 ⟨rfl,a1⟩;have u0:=za a1 y0;have u2:=za a1 y2;have ah:=QS a8 a1.size) | (at_builtin;refine wv (L:=y.fM.length) rfl (.tmp 22) (.tmp 27) sV lq (S:=[v1.heap.size]) (Has.emp iH (QO _ _)) (Ty.up _ h2 (a1.trans gF)) rfl rfl rfl (Rk _).symm (by omega) (by omega) ?_;intro A7 c7 W7 S7 a6 a7 ac));rw[RC] at a7;have aD:=a1.size;have ag:ft w W7:=a6.fx (a1.trans gF) (fun b hb=>by simp at hb;omega);go_loopw [6,7] (fun z j wr=>∃(i:Nat) (A5:X Ri) (c5:Nat) (S:Q Nat) (a0:Q N),z=G A5 a0.length c5/\j=J C i/\a<=i/\i<=e/\a0.length<=y.fM.length+(i-a)/\Hid (ft w wr)/\Hid (Has (iH.sl 9) wr [G A5 a0.length c5] a0 S)/\Hid (∀ b∈S,w.heap.size<=b)/\Hid (oF (xs.drop i) (e-i) a0=zq xs a)) (fun _ j _=>e-(Ry j).toNat)
 case atStart=>exact⟨a,A7,c7,S7,y.fM,rfl,rfl,Q8 _,by omega,by omega,fh (ag.trans gF),fh (a7.fx gF),fh (fun b hb=>by rcases ac b hb with h | h;(simp at h;omega);(simp at h;omega)),HS⟩
 case round=>
  obtain⟨i,A5,c5,S,a0,rfl,rfl,af,aC,ae,hG,hH,hS,hE⟩:=hrel;by_cases hlt:i<e
  ·obtain⟨g2,ao,x,ar,ax,au,ay,a5,_,a9,x0,x1,_,_,_,b1,_,_⟩:=lK hx (show i<xs.length by omega)
   injection a5 with a5
   injection a5 with e1 e2
   subst e1 e2;have aj:(i:Int)<(e:Int):=by omega
   have ai:(i:Int)<(xs.length:Int):=by omega
   have v0:=za hG.out x0;have v1:=za hG.out x1;have HX:=fh a9;clear a9 x0 x1;by_cases h1:x.Kind=1
   ·have q1:(x.Kind == 1)=M:=Rt.2 h1
    rcases RB (jA a0 x.Name) with hh | hh
    ·have ak:¬ (lO a0 x.Name 0<0):=fun h=>by have h1:=zm x.Name a0;rw[show (a0.any fun y=>decide (y=x.Name))=M from hh] at h1;have h2:=Tl h1;omega
     have HF:Hid (oF (xs.drop (i+1)) (e-(i+1)) a0=zq xs a):=fh (by rw[<-hE.out,BJ HX.out (show i<e from hlt),qU,QZ (fun h=>by rw[hh] at h;cases h.2)]);clear hh h1;go_wp2_with(first | (go_at_call 193;(with_reducible refine(zfh (xs:=a0) (hH.out.fx gF).read (by omega)).mono ?_);rintro e2 v2 ⟨rfl,a3⟩;have t1:=za (ft.trans (b:=_) gF a3) v1));go_roundw;exact⟨i+1,A5,c5,S,a0,rfl,by go_num,by omega,by omega,by omega,fh (hG.out.trans (ft.trans (b:=_) gF (a3.trans gF))),fh (hH.out.fx (ft.trans (b:=_) gF (a3.trans gF))),hS,HF⟩;exact gH
    ·have ak:lO a0 x.Name 0<0:=by have h1:=zm x.Name a0;rw[show (a0.any fun y=>decide (y=x.Name))=I from hh] at h1;have h2:=Uh h1;omega
     have HF:Hid (oF (xs.drop (i+1)) (e-(i+1)) (a0++[x.Name])=zq xs a):=fh (by rw[<-hE.out,BJ HX.out (show i<e from hlt),qU,Q5 ⟨h1,hh⟩]);clear hh h1;go_wp2_with(first | (go_at_call 193;(with_reducible refine(zfh (xs:=a0) (hH.out.fx gF).read (by omega)).mono ?_);rintro e2 v2 ⟨rfl,a3⟩;have t1:=za (ft.trans (b:=_) gF a3) v1) | (refine zA (W1:=w) (L:=a0.length+1) rfl (.tmp 51) (.tmp 57) sV lq (S:=S) (hH.out.fx (ft.trans (b:=_) gF (a3.trans gF))) (ec:=[V x.Name]) (y:=x.Name) (B:=0) ⟨rfl,b1⟩ rfl rfl rfl (by intro j u hu;simpa[go_sem] using hu) rfl (by omega) (by omega) ?_;intro A8 c8 W8 S8 am ab ad));go_roundw
     case measure=>exact gH
     case rel=>
      have aE:=hG.out.size;have an:=a3.size;refine⟨i+1,A8,c8,S8,a0++[x.Name],by simp,by go_num,by omega,by omega,by simp;omega,fh (am.fx (hG.out.trans (ft.trans (b:=_) gF (a3.trans gF))) hS.out),fh (by rw[QR];exact ab),fh (fun b hb=>?_),HF⟩;rcases ad b hb with h | h
      ·exact hS.out b h
      ·(try simp at h);(try simp at an);omega
   ·have q1:(x.Kind == 1)=I:=QV.2 h1
    have HF:Hid (oF (xs.drop (i+1)) (e-(i+1)) a0=zq xs a):=fh (by rw[<-hE.out,BJ HX.out (show i<e from hlt),qU,QZ (fun h=>h1 h.1)]);clear h1;go_wp2_with(fail);go_roundw;exact⟨i+1,A5,c5,S,a0,rfl,by go_num,by omega,by omega,by omega,fh (hG.out.trans gF),fh (hH.out.fx gF),hS,HF⟩;exact gH
  ·obtain rfl:i=e:=by omega
   have aj:¬ ((i:Int)<(i:Int)):=by omega
   have HF:Hid (a0=zq xs a):=fh (by have h:=hE.out;rw[RP] at h;rw[<-h];cases xs.drop i <;> rfl);go_wp2_with(fail);refine QU (v:=G A5 a0.length c5) (by simp[Rd,results191,go_sem]) rfl ?_;rw[<-HF.out];exact⟨A5,c5,S,rfl,hH.out,hS.out,hG.out⟩
theorem Mh {d:Int} (hX:xs[i]?=Z x)(hD:d=zE xs i-zE xs (k+1))(h0:x.Kind≠0)(h4:x.Kind≠4):∃ nd,nd=zE xs (i+1)-zE xs (k+1)/\
  (((x.Kind == 3)=M/\(x.Kind == 5)=I/\(x.Kind == 7)=I/\d+1=nd)∨((x.Kind == 3)=I/\(x.Kind == 5)=M/\(x.Kind == 7)=I/\d+1=nd)∨((x.Kind == 3)=I/\(x.Kind == 5)=I/\(x.Kind == 7)=M/\d-1=nd)∨((x.Kind == 3)=I/\(x.Kind == 5)=I/\(x.Kind == 7)=I/\d=nd)):=by
 have h1:=sA hX;refine⟨_,rfl,?_⟩;by_cases h3:x.Kind=3
 ·have h2:kR x=1:=by unfold kR;rw[h3];rfl
  exact .inl ⟨by rw[h3];rfl,by rw[h3];rfl,by rw[h3];rfl,by omega⟩
 by_cases h5:x.Kind=5
 ·have h2:kR x=1:=by unfold kR;rw[h5];rfl
  exact .inr (.inl ⟨by rw[h5];rfl,by rw[h5];rfl,by rw[h5];rfl,by omega⟩)
 by_cases h7:x.Kind=7
 ·have h2:kR x = -1:=by unfold kR;rw[h7];rfl
  exact .inr (.inr (.inl ⟨by rw[h7];rfl,by rw[h7];rfl,by rw[h7];rfl,by omega⟩))
 ·have h2:kR x=0:=by unfold kR np;rw[QT h0,QT h3,QT h5,QZ (by decide),QZ h7]
  exact .inr (.inr (.inr ⟨QV.2 h3,QV.2 h5,QV.2 h7,by omega⟩))
theorem Kc (h:x.Kind=0):nQ p L k i x=I:=by unfold nQ;rw[QY h];rfl
theorem DH (h:4<zE p (i+1)-zE p (k+1)):nQ p L k i x=I:=by unfold nQ;rw[QT (show ¬ (zE p (i+1)-zE p (k+1)<=4) by omega)];simp
theorem Bq (h:zQ p L x.Expr=I):nQ p L k i x=I:=by unfold nQ;rw[h];simp
theorem Jn (h4:x.Kind=4)(h:rj p k i=I):nQ p L k i x=I:=by unfold nQ;rw[Q5 h4,h];simp
theorem EL (h0:x.Kind≠0)(h4:x.Kind=4->rj p k i=M)(hd:zE p (i+1)-zE p (k+1)<=4)(h:zQ p L x.Expr=M):nQ p L k i x=M:=by
 unfold nQ;rw[h,QY hd,QT h0];by_cases h:x.Kind=4
 ·rw[Q5 h,h4 h];rfl
 ·rw[QZ h];rfl
theorem wu {l:Q gB} {t:Nat} {y:gB} (h:l[t]?=Z y)(f:gB->Bool):(l.drop t).all f=(f y && (l.drop (t+1)).all f):=by
 obtain⟨h1,rfl⟩:=QM.1 h;rw[Q6 h1];rfl
theorem Mo (hh:jA L s=M):¬ (lO L s 0<0):=fun h=>by
 have h1:=zm s L;rw[show (L.any fun y=>decide (y=s))=M from hh] at h1;have h2:=Tl h1;omega
theorem OF (hh:jA L s=I):lO L s 0<0:=by
 have h1:=zm s L;rw[show (L.any fun y=>decide (y=s))=I from hh] at h1;have h2:=Uh h1;omega
theorem D8 (s:N):∀(l:Q fv)(j:Nat),og l s j = -1∨∃(f:Nat)(z:fv),og l s j=((j+f:Nat):Int)/\l[f]?=Z z
 | [],_=>.inl rfl
 | x::r,j=>by
  unfold og;split
  ·exact .inr ⟨0,x,rfl,rfl⟩
  ·rcases D8 s r (j+1) with h | ⟨f,z,h1,h2⟩
   ·exact .inl h
   ·exact .inr ⟨f+1,z,by rw[h1];congr 1;omega,h2⟩
theorem I7 (p:Q fv)(s:N):kz p s = -1∨∃(f:Nat)(z:fv),kz p s=(f:Int)/\p[f]?=Z z:=by
 rcases D8 s p 0 with h | ⟨f,z,h1,h2⟩
 ·exact .inl h
 ·exact .inr ⟨f,z,by rw[kz,h1,Rk],h2⟩
theorem yw {g:Prop} (f:g:=by
  have HY:=fh hyk
  clear hyk
  subst hA5
  have w0:=za hGt.out y0
  have w1:=za hGt.out y1
  have w2:=za hGt.out y2
  have hg5w:=QS hg5 hGt.out.size
  have hgw:=QS hgb hGt.out.size
  have htn:(t:Int)<(x.Expr.length:Int):=by omega
  by_cases k1:y.Kind=1
  ·have q1:(y.Kind == 1)=M:=Rt.2 k1
   have q7:(y.Kind == 7)=I:=QV.2 (by rw[k1];decide)
   rcases RB (jA L y.Name) with hh | hh
   ·have hix:¬ (lO L y.Name 0<0):=Mo hh
    have HT2:Hid ((x.Expr.drop (t+1)).all (zP xs L)=zQ xs L x.Expr):=fh (by rw[<-hT.out,wu HY.out,zP,Q5 k1,hh];rfl)
    clear hh k1
    go_wp2_with(first | (go_at_call 193;(with_reducible refine(zfh (xs:=L) (Ty.up _ hHw.out (hGt.out.trans gF)) hLb).mono ?_);rintro e2 v2 ⟨rfl,hg2⟩;obtain⟨bx0,bx1,bx2,_⟩:=se (zj (QO wr (F #[J C y.Kind,J C y.gW,V y.Name] 160)) (ft.trans (b:=_) gF hg2))))
    go_roundw
    exact⟨t+1,by go_num,by omega,fh (hGt.out.trans (ft.trans (b:=_) gF (hg2.trans gF))),HT2⟩
    exact gH
   ·have hix:lO L y.Name 0<0:=OF hh
    have hfalse:zP xs L y=I:=by rw[zP,Q5 k1,hh]
    clear hh k1
    have HF2:Hid (my xs k e=I):=fh (by rw[HBO.out,<-hE.out,sw HX.out hlt,Bq (by rw[<-hT.out,wu HY.out,hfalse];rfl)];simp)
    clear hfalse
    go_wp2_with(first | (go_at_call 193;(with_reducible refine(zfh (xs:=L) (Ty.up _ hHw.out (hGt.out.trans gF)) hLb).mono ?_);rintro e2 v2 ⟨rfl,hg2⟩;obtain⟨bx0,bx1,bx2,_⟩:=se (zj (QO wr (F #[J C y.Kind,J C y.gW,V y.Name] 160)) (ft.trans (b:=_) gF hg2))))
    all_goals exact QU (v:=H I) (by simp[Rd,results161,go_sem]) rfl ⟨by rw[HF2.out],hg1.trans (hGt.out.trans (ft.trans (b:=_) gF (hg2.trans gF)))⟩
  ·have q1:(y.Kind == 1)=I:=QV.2 k1
   by_cases k7:y.Kind=7
   ·have q7:(y.Kind == 7)=M:=Rt.2 k7
    rcases I7 xs y.Name with hff | ⟨f,z,hff,hz⟩
    ·have HFF:=fh hff
     have hfalse:zP xs L y=I:=by rw[zP,QZ k1,Q5 k7,hff];rfl
     have HF2:Hid (my xs k e=I):=fh (by rw[HBO.out,<-hE.out,sw HX.out hlt,Bq (by rw[<-hT.out,wu HY.out,hfalse];rfl)];simp)
     clear hff k1 k7 hfalse
     go_wp2_with(first | (go_at_call 159;(with_reducible refine(zcY (Ty.up _ hx (hg1.trans (hGt.out.trans gF))) hl).mono ?_);rw[HFF.out];rintro e2 v2 ⟨rfl,hg2⟩;obtain⟨bx0,bx1,bx2,_⟩:=se (zj (QO wr (F #[J C y.Kind,J C y.gW,V y.Name] 160)) (ft.trans (b:=_) gF hg2))))
     go_quiet (fail)
     go_wp2_with(fail)
     all_goals exact QU (v:=H I) (by simp[Rd,results161,go_sem]) rfl ⟨by rw[HF2.out],hg1.trans (hGt.out.trans (ft.trans (b:=_) gF (hg2.trans gF)))⟩
    ·obtain⟨g6,off6,z',A60,c60,A61,c61,hA6,_,hz',z0,z1,z2,z3,_⟩:=lK (Ty.up _ hx hg1) (QM.1 hz).1
     obtain rfl:z'=z:=by rw[hz] at hz';injection hz' with h;exact h.symm
     injection hA6 with hA6
     injection hA6 with e1 e2
     subst e1 e2
     have wz:=za hGt.out z2
     have hfl:f<xs.length:=(QM.1 hz).1
     have hfi:(f:Int)<(xs.length:Int):=by omega
     have hf0:¬ ((f:Int)<0):=by omega
     have HFF:=fh hff
     by_cases har:(z'.fM.length:Int)=y.gW
     ·have harb:((z'.fM.length:Int) != y.gW)=I:=by rw[n9,QY har];rfl
      have HT2:Hid ((x.Expr.drop (t+1)).all (zP xs L)=zQ xs L x.Expr):=fh (by rw[<-hT.out,wu HY.out,zP,QZ k1,Q5 k7,hff,QZ hf0,Ra,hz];simp only;rw[QY har];rfl)
      clear hff hz hz' k1 k7 har
      go_wp2_with(first | (go_at_call 159;(with_reducible refine(zcY (Ty.up _ hx (hg1.trans (hGt.out.trans gF))) hl).mono ?_);rw[HFF.out];rintro e2 v2 ⟨rfl,hg2⟩;obtain⟨bx0,bx1,bx2,_⟩:=se (zj (QO wr (F #[J C y.Kind,J C y.gW,V y.Name] 160)) (ft.trans (b:=_) gF hg2));have ff2:=za (ft.trans (b:=_) gF hg2) wz))
      go_quiet (fail)
      go_wp2_with(fail)
      go_roundw
      exact⟨t+1,by go_num,by omega,fh (hGt.out.trans (ft.trans (b:=_) gF (hg2.trans gF))),HT2⟩
      exact gH
     ·have harb:((z'.fM.length:Int) != y.gW)=M:=by rw[n9,QT har];rfl
      have hfalse:zP xs L y=I:=by rw[zP,QZ k1,Q5 k7,hff,QZ hf0,Ra,hz];simp only;rw[QT har]
      have HF2:Hid (my xs k e=I):=fh (by rw[HBO.out,<-hE.out,sw HX.out hlt,Bq (by rw[<-hT.out,wu HY.out,hfalse];rfl)];simp)
      clear hff hz hz' k1 k7 har hfalse
      go_wp2_with(first | (go_at_call 159;(with_reducible refine(zcY (Ty.up _ hx (hg1.trans (hGt.out.trans gF))) hl).mono ?_);rw[HFF.out];rintro e2 v2 ⟨rfl,hg2⟩;obtain⟨bx0,bx1,bx2,_⟩:=se (zj (QO wr (F #[J C y.Kind,J C y.gW,V y.Name] 160)) (ft.trans (b:=_) gF hg2));have ff2:=za (ft.trans (b:=_) gF hg2) wz))
      go_quiet (fail)
      go_wp2_with(fail)
      all_goals exact QU (v:=H I) (by simp[Rd,results161,go_sem]) rfl ⟨by rw[HF2.out],hg1.trans (hGt.out.trans (ft.trans (b:=_) gF (hg2.trans gF)))⟩
   ·have q7:(y.Kind == 7)=I:=QV.2 k7
    have HT2:Hid ((x.Expr.drop (t+1)).all (zP xs L)=zQ xs L x.Expr):=fh (by rw[<-hT.out,wu HY.out,zP,QZ k1,QZ k7];rfl)
    clear k1 k7
    go_wp2_with(fail)
    go_roundw
    exact⟨t+1,by go_num,by omega,fh (hGt.out.trans gF),HT2⟩
    exact gH):g:=f
theorem uP {g:Prop} (f:g:=by
  go_wp2_with(fail)
  all_goals exact QU (v:=H I) (by simp[Rd,results161,go_sem]) rfl ⟨by rw[HF.out],hg1.trans (hGi.out.trans gF)⟩):g:=f
theorem uS {g:Prop} (f:g:=by
  go_wp2_with(fail)
  all_goals exact QU (v:=H I) (by simp[Rd,results161,go_sem]) rfl ⟨by rw[HF.out],hg1.trans (hG.out.trans gF)⟩):g:=f
theorem ztV (hx:(zJ.sl 99).R w w.heap.size [G A xs.length c] xs)(hl:xs.length<=1099511627776)(hs:∀ x∈xs,x.fM.length<=1099511627776/\x.Expr.length<=1099511627776)(hends:gz xs k e) :
  Rh prog 161 #[G A xs.length c,J C k,J C e] w fun r w'=>r=.returned (H (my xs k e))/\ft w w':=by
 have ak:=hends.len;have av:=hends.lt;obtain⟨L,hL⟩:∃ L,zq xs k=L:=⟨_,rfl⟩
 have a6:=zh0 (k:=(k:Int)) hx hl hs;rw[hL] at a6;obtain⟨B,hB⟩:∃ B,rh xs L k (xs.drop (k+1)) (e-(k+1)) (k+1)=B:=⟨_,rfl⟩
 have a1:Hid (my xs k e=(decide (L.length<=8) && B)):=fh (by unfold my;rw[hL,hB]);have HB:=fh hB;clear hL hB;by_cases h8:8<L.length
 ·have HF:Hid (my xs k e=I):=fh (by rw[a1.out,QT (by omega)];rfl)
  have af:(L.length:Int) > 8:=by omega
  clear h8;go_enter func161,ntmps161;go_wp2_with(first | (go_at_call 191;(with_reducible refine a6.mono ?_);rintro e1 v1 ⟨AL,cL,SL,rfl,ab,ag,hg1⟩))
  all_goals exact QU (v:=H I) (by simp[Rd,results161,go_sem]) rfl ⟨by rw[HF.out],hg1.trans gF⟩
 have HBO:Hid (my xs k e=B):=fh (by rw[a1.out,QY (by omega)];rfl);have hLb:L.length<=8796093022208:=by omega
 have af:¬ ((L.length:Int) > 8):=by omega
 have ap:¬ (8<(L.length:Int)):=by omega
 have aB:QP C ((k:Int)+1)=(k:Int)+1:=iw;clear h8;go_enter func161,ntmps161;go_wp2_with(first | (go_at_call 191;(with_reducible refine a6.mono ?_);rintro e1 v1 ⟨AL,cL,SL,rfl,ab,ag,hg1⟩));have hHw:Hid ((iH.sl 9).R v1 v1.heap.size [G AL L.length cL] L):=fh ab.read;go_loopw [8,9] (fun z j wr=>∃(i:Nat) (d:Int),z=J C d/\j=J C i/\k<i/\i<=e/\-(i:Int)<=d/\d<=(i:Int)/\Hid (d=zE xs i-zE xs (k+1))/\Hid (ft v1 wr)/\Hid (rh xs L k (xs.drop i) (e-i) i=B)) (fun _ j _=>e-(Ry j).toNat)
 case atStart=>exact⟨k+1,0,rfl,by go_num,by omega,by omega,by omega,by omega,fh (by omega),fh gF,HB⟩
 case round=>
  obtain⟨i,d,rfl,rfl,aw,au,aq,ar,hD,hG,hE⟩:=hrel;by_cases hlt:i<e
  ·obtain⟨g,aD,x,al,an,am,ao,rfl,hgb,a9,x0,x1,x2,x3,b0,b1,_,h3⟩:=lK (Ty.up _ hx hg1) (show i<xs.length by omega)
   have ai:(i:Int)<(e:Int):=by omega
   have ah:(i:Int)<(xs.length:Int):=by omega
   have v0:=za hG.out x0;have v3:=za hG.out x3;have HX:=fh a9;have aC:=(hs x (Q9 a9)).2;have hgw:=QS hgb hG.out.size;clear a9;have az:QP C (d+1)=d+1:=iw;have aA:QP C (d-1)=d-1:=iw;by_cases hk0:x.Kind=0
   ·have r0:(x.Kind == 0)=M:=Rt.2 hk0
    have HF:Hid (my xs k e=I):=fh (by rw[HBO.out,<-hE.out,sw HX.out hlt,Kc hk0];rfl);clear hk0;exact uS
   by_cases hk:x.Kind=4
   ·have r0:(x.Kind == 0)=I:=QV.2 (by rw[hk];decide)
    have r3:(x.Kind == 3)=I:=QV.2 (by rw[hk];decide);have r5:(x.Kind == 5)=I:=QV.2 (by rw[hk];decide);have r7:(x.Kind == 7)=I:=QV.2 (by rw[hk];decide);have r4:(x.Kind == 4)=M:=Rt.2 hk;have HN:Hid (d=zE xs (i+1)-zE xs (k+1)):=fh (by have h1:=sA HX.out;have h2:kR x=0:=(by unfold kR;rw[hk];rfl);have h3:=hD.out;omega);have a4:Hid (x.Kind≠0):=fh (by rw[hk];decide);have ad:=fh hk;clear hk hk0;go_wp2_with(fail);go_loopw [10,11] (fun z j wi=>∃(b:Bool) (q:Nat),z=H b/\j=J C q/\k<=q/\q<=i/\Hid (ft v1 wi)/\Hid ((b || (TK q (i-q)).any fun j=>decide (kh xs j=i))=rj xs k i)) (fun _ j _=>i-(Ry j).toNat)
    case atStart=>exact⟨I,k,rfl,rfl,Q8 _,by omega,fh (hG.out.trans gF),fh rfl⟩
    case round=>
     obtain⟨b,q,rfl,rfl,ax,ay,hGi,a2⟩:=hrel;by_cases hq:q<i
     ·have a8:(q:Int)<(i:Int):=by omega
      cases b with
      | true=>
       have HF:Hid ((M || (TK (q+1) (i-(q+1))).any fun j=>decide (kh xs j=i))=rj xs k i):=fh (by rw[<-a2.out];rfl);go_wp2_with(fail);go_roundw;exact⟨M,q+1,by go_num,by go_num,by omega,by omega,fh (hGi.out.trans gF),HF⟩;exact gH
      | false=>
       obtain⟨r,hr⟩:∃ r,kh xs q=r:=⟨_,rfl⟩
       have HR:=fh hr
       have HF:Hid (((r == (i:Int)) || (TK (q+1) (i-(q+1))).any fun j=>decide (kh xs j=i))=rj xs k i):=fh (by
        rw[<-a2.out,show i-q=(i-(q+1))+1 from by omega,List.range'_succ,List.any_cons,hr,AN]
        rfl)
       clear hr;go_wp2_with(first | (go_at_call 192;(with_reducible refine(zgI (Ty.up _ hx (hg1.trans (hGi.out.trans gF))) hl).mono ?_);rw[HR.out];rintro e2 v2 ⟨rfl,hg2⟩));go_roundw;exact⟨(r == (i:Int)),q+1,by go_num,by go_num,by omega,by omega,fh (hGi.out.trans (ft.trans (b:=_) gF (hg2.trans gF))),HF⟩;exact gH
     ·obtain rfl:q=i:=by omega
      have a8:¬ ((q:Int)<(q:Int)):=by omega
      cases b with
      | false=>
       have HF:Hid (my xs k e=I):=fh (by rw[HBO.out,<-hE.out,sw HX.out hlt,Jn ad.out (by rw[<-a2.out,RP];rfl)];rfl);exact uP
      | true=>
       have a0:Hid (x.Kind=4->rj xs k q=M):=fh (fun _=>by rw[<-a2.out];rfl);by_cases h4:4<d
       ·have HF:Hid (my xs k e=I):=fh (by rw[HBO.out,<-hE.out,sw HX.out hlt,DH (by rw[<-HN.out];omega)];simp)
        have a5:d > 4:=h4;clear h4;exact uP
       have a5:¬ (d > 4):=h4;have ae:¬ (4<d):=h4;clear h4;go_wp2_with(fail);go_loopw [12] (fun j wt=>∃(t:Nat),j=J C t/\t<=x.Expr.length/\Hid (ft v1 wt)/\Hid ((x.Expr.drop t).all (zP xs L)=zQ xs L x.Expr)) (fun j _=>x.Expr.length-(Ry j).toNat)
       case atStart=>exact⟨0,rfl,QX _,fh (hGi.out.trans gF),fh rfl⟩
       case round=>
        obtain⟨t,rfl,ht,hGt,hT⟩:=hrel;have w3:=za hGt.out x3;by_cases htl:t<x.Expr.length
        ·obtain⟨g5,aa,y,hA5,hg5,hyk,y0,y1,y2,yk,yn,ys⟩:=tG h3 htl
         exact yw
        ·obtain rfl:t=x.Expr.length:=by omega
         have htn:¬ ((x.Expr.length:Int)<(x.Expr.length:Int)):=by omega
         have a3:Hid (rh xs L k (xs.drop (q+1)) (e-(q+1)) (q+1)=B):=fh (by
          rw[<-hE.out,sw HX.out hlt,EL a4.out a0.out (by rw[<-HN.out];omega) (by rw[<-hT.out,Rq];rfl)]
          rfl)
         go_wp2_with(fail);go_roundw;exact⟨q+1,d,by go_num,by go_num,by omega,by omega,by omega,by omega,HN,fh (hGt.out.trans gF),a3⟩;exact gH
   obtain⟨nd,ac,aj⟩:=Mh HX.out hD.out hk0 hk;have r0:(x.Kind == 0)=I:=QV.2 hk0;have r4:(x.Kind == 4)=I:=QV.2 hk;have HN:=fh ac;have a4:=fh hk0;have a0:Hid (x.Kind=4->rj xs k i=M):=fh (fun h=>absurd h hk);clear hk0 hk ac;rcases aj with⟨r3,r5,r7,a7⟩ | ⟨r3,r5,r7,a7⟩ | ⟨r3,r5,r7,a7⟩ | ⟨r3,r5,r7,a7⟩
   all_goals
    by_cases h4:4<nd
    ·have HF:Hid (my xs k e=I):=fh (by rw[HBO.out,<-hE.out,sw HX.out hlt,DH (by rw[<-HN.out];omega)];simp)
     have a5:nd > 4:=h4;clear h4;exact uS
    have a5:¬ (nd > 4):=h4
    have ae:¬ (4<nd):=h4
    clear h4
    go_wp2_with(fail)
    go_loopw [12] (fun j wt=>∃(t:Nat),j=J C t/\t<=x.Expr.length/\Hid (ft v1 wt)/\Hid ((x.Expr.drop t).all (zP xs L)=zQ xs L x.Expr)) (fun j _=>x.Expr.length-(Ry j).toNat)
    case atStart=>exact⟨0,rfl,QX _,fh (hG.out.trans gF),fh rfl⟩
    case round=>
     obtain⟨t,rfl,ht,hGt,hT⟩:=hrel;have w3:=za hGt.out x3;by_cases htl:t<x.Expr.length
     ·obtain⟨g5,aa,y,hA5,hg5,hyk,y0,y1,y2,yk,yn,ys⟩:=tG h3 htl
      exact yw
     ·obtain rfl:t=x.Expr.length:=by omega
      have htn:¬ ((x.Expr.length:Int)<(x.Expr.length:Int)):=by omega
      have a3:Hid (rh xs L k (xs.drop (i+1)) (e-(i+1)) (i+1)=B):=fh (by
       rw[<-hE.out,sw HX.out hlt,EL a4.out a0.out (by rw[<-HN.out];omega) (by rw[<-hT.out,Rq];rfl)]
       rfl)
      go_wp2_with(fail);go_roundw;exact⟨i+1,nd,by go_num,by go_num,by omega,by omega,by omega,by omega,HN,fh (hGt.out.trans gF),a3⟩;exact gH
  ·obtain rfl:i=e:=by omega
   have ai:¬ ((i:Int)<(i:Int)):=by omega
   have HF:Hid (my xs k i=M):=fh (by rw[HBO.out,<-hE.out,RP];cases xs.drop i <;> rfl);go_wp2_with(fail);exact QU (v:=H M) (by simp[Rd,results161,go_sem]) rfl ⟨by rw[HF.out],hg1.trans (hG.out.trans gF)⟩
end Go.Proofs.YthgbglbaemelhaaGreat
