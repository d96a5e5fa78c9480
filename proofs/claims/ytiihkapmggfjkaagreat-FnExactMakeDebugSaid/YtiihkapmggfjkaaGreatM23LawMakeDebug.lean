/-
  PART.
-/
import Derived.Test.YtiihkapmggfjkaaGreatM22LawMakeDebug
set_option linter.unusedVariables false
set_option linter.unusedSimpArgs false
set_option maxRecDepth 100000
set_option maxHeartbeats 8000000
namespace Go.Proofs.YtiihkapmggfjkaaGreat
open Value renaming slice->J,int->F,bool->X,string->G
open IntKind renaming i64->I,wrap->Ll
open Option renaming none->V,some->H
open Obj renaming cells->C
open Bool renaming false->U,true->M
open Go renaming World->N,results->Ly,Calls->LR,Addr->Mh
open _root_.Int renaming toNat_natCast->Lw
open RowKit renaming intOf->Ml
open Tryz
open Go.RowKit
variable {A A0 A1:K Mh}{c c0 c1 i:Nat}{k:Int}{s:D}{w:N}{x:fG}{xs:Q fG}
theorem qY (k c:Int):(k == c)=decide (k=c):=by rw[OC];simp
theorem jZ (k c:Int):(k != c) = !decide (k=c):=by rw[bne,qY]
theorem uK (k:Int)(w:N):LR prog 187 #[F I k] w fun e w'=>e=.returned (X (mM k))/\fF w w':=by
 go_enter func187,ntmps187;go_wp2_with(fail)
 all_goals
  go_ret
  refine⟨zy ?_,gG⟩
  unfold mM
  simp_all [qY]
def yX (k:Int):Bool:=(!decide (k=0)) && ((!decide (k=4)) && !decide (k=7))
theorem F0 (h:gW k 0 7=M):yX k=mM k:=by
 have h:=zX.1 h;have h2:k=0∨k=1∨k=2∨k=3∨k=4∨k=5∨k=6∨k=7:=by omega
 rcases h2 with rfl | rfl | rfl | rfl | rfl | rfl | rfl | rfl <;> rfl
theorem Ii (k:Int)(w:N):LR prog 173 #[F I k] w fun e w'=>e=.returned (X (yX k))/\fF w w':=by
 go_enter func173,ntmps173;go_wp2_with(fail)
 all_goals
  go_ret
  refine⟨zy ?_,gG⟩
  unfold yX
  simp_all [jZ]
theorem CP {xs:Q D} {k:Nat} {x:D} (h:xs[k]?=H x):mP (xs.take k) (xs.drop k)=(mZ x && (!(jy (xs.take k) x) && mP (xs.take (k+1)) (xs.drop (k+1)))):=by
 obtain⟨h1,rfl⟩:=Lh.1 h;rw[LI h1,mP,ME,h];rfl
theorem zpv {xs:Q D} (hx:(iH.sl 9).R w w.heap.size [J A xs.length c] xs)(hl:xs.length<=1099511627776) :
  LR prog 186 #[J A xs.length c] w fun e w'=>e=.returned (X (oT xs))/\fF w w':=by
 go_enter func186,ntmps186;go_wp2_with(fail);go_loopw [7] (fun j wr=>∃(k:Nat),j=F I k/\k<=xs.length/\Hid (fF w wr)/\Hid (mP (xs.take k) (xs.drop k)=mP [] xs)) (fun j _=>xs.length-(Ml j).toNat)
 case atStart=>exact⟨0,rfl,Lv _,fE gF,fE rfl⟩
 case round=>
  obtain⟨k,rfl,hk,hG,hE⟩:=hrel;by_cases hlt:k<xs.length
  ·obtain⟨g,a3,x,rfl,a2,x0,bx⟩:=qu hx hlt
   have a4:(k:Int)<(xs.length:Int):=by omega
   have x0:=za hG.out x0;have HA:=fE (CP a2);clear a2;rcases LH (mZ x) with hn | hn
   ·have HN:=fE hn
    obtain⟨a5,a1⟩:=ud tJ hx (k:=k) (by omega);have a0:(xs.take k).length=k:=by rw[MG];omega
    have hc:∀ v1,fF w v1->LR prog 223 #[J (H ⟨g,a3,V⟩) k c,G x] v1 fun e w'=>e=.returned (X (jy (xs.take k) x))/\fF v1 w':=fun v1 hg=>by
     have h:=uG (xs:=xs.take k) (v:=x) (w:=v1) (A:=H ⟨g,a3,V⟩) (c:=c) (by rw[a0];exact Ty.up _ a1 hg) (by rw[a0];omega);rw[a0] at h;exact h
    clear a1;rcases LH (jy (xs.take k) x) with hh | hh
    ·have HH:=fE hh
     have HF:Hid (oT xs=U):=fE (by unfold oT;rw[<-hE.out,HA.out,hn,hh];simp);clear hh hn;go_wp2_with(first | (go_at_call 185;(with_reducible refine(uY _ _ bx).mono ?_);rw[HN.out];rintro e w1 ⟨rfl,rfl⟩) | (go_at_call 223;(with_reducible refine(hc _ (hG.out.trans gF)).mono ?_);rw[HH.out];rintro e v1 ⟨rfl,hg⟩));exact Ln (v:=X U) (by simp[Ly,results186,go_sem]) rfl ⟨by rw[HF.out],hG.out.trans (fF.trans (b:=_) gF hg)⟩
    ·have HH:=fE hh
     have HF:Hid (mP (xs.take (k+1)) (xs.drop (k+1))=mP [] xs):=fE (by rw[<-hE.out,HA.out,hn,hh];simp);clear hh hn;go_wp2_with(first | (go_at_call 185;(with_reducible refine(uY _ _ bx).mono ?_);rw[HN.out];rintro e w1 ⟨rfl,rfl⟩) | (go_at_call 223;(with_reducible refine(hc _ (hG.out.trans gF)).mono ?_);rw[HH.out];rintro e v1 ⟨rfl,hg⟩));go_roundw;exact⟨k+1,by go_num,by omega,fE (hG.out.trans (fF.trans (b:=_) gF (hg.trans gF))),HF⟩;exact gL
   ·have HN:=fE hn
    have HF:Hid (oT xs=U):=fE (by unfold oT;rw[<-hE.out,HA.out,hn];simp);clear hn;go_wp2_with(first | (go_at_call 185;(with_reducible refine(uY _ _ bx).mono ?_);rw[HN.out];rintro e w1 ⟨rfl,rfl⟩));exact Ln (v:=X U) (by simp[Ly,results186,go_sem]) rfl ⟨by rw[HF.out],hG.out.trans gF⟩
  ·obtain rfl:k=xs.length:=by omega
   have a4:¬ ((xs.length:Int)<(xs.length:Int)):=by omega
   have HF:Hid (oT xs=decide ((xs.length:Int)<=4)):=fE (by unfold oT;rw[<-hE.out,LY,mP,Bool.and_true];exact decide_eq_decide.2 (by omega));go_wp2_with(fail);exact Ln (v:=X (decide ((xs.length:Int)<=4))) (by simp[Ly,results186,go_sem]) rfl ⟨by rw[HF.out],hG.out.trans gF⟩
theorem znq (b1:x.Name.size<=9223372036854775807)(h2:(iH.sl 9).R w w.heap.size [J A0 x.fP.length c0] x.fP)(h3:(iz.sl 159).R w w.heap.size [J A1 x.Expr.length c1] x.Expr)(hl2:x.fP.length<=1099511627776)(hl3:x.Expr.length<=1099511627776) :
  LR prog 106 #[.agg #[F I x.Kind,G x.Name,J A0 x.fP.length c0,J A1 x.Expr.length c1]] w fun e w'=>e=.returned (X (ku x))/\fF w w':=by
 have a0:fF w (w.alloc (C #[F I x.Kind,G x.Name,J A0 x.fP.length c0,J A1 x.Expr.length c1] 87)):=gF;obtain⟨y0,y1,y2,y3,_,yl⟩:=jq (Lp w (C #[F I x.Kind,G x.Name,J A0 x.fP.length c0,J A1 x.Expr.length c1] 87));obtain⟨q0,k0⟩:∃ q,(x.Kind == 0)=q:=⟨_,rfl⟩
 obtain⟨q1,k1⟩:∃ q,(x.Kind == 1)=q:=⟨_,rfl⟩
 have n0:(x.Kind != 0) = !q0:=by rw[bne,k0]
 cases q0 <;> cases q1
 all_goals
  go_enter func106,ntmps106
  go_wp2_with(first | (go_at_call 43;(with_reducible refine(jr _ _ _ _).mono ?_);rintro e w1 ⟨rfl,rfl⟩) | (go_at_call 185;(with_reducible refine(uY _ _ b1).mono ?_);rintro e w1 ⟨rfl,rfl⟩) | (go_at_call 186;(with_reducible refine(zpv (Ty.up _ h2 (a0.trans gF)) hl2).mono ?_);rintro e v1 ⟨rfl,a1⟩;have a0:=a0.trans (fF.trans (b:=_) gF a1);have y0:=za (fF.trans (b:=_) gF a1) y0;have y1:=za (fF.trans (b:=_) gF a1) y1;have y2:=za (fF.trans (b:=_) gF a1) y2;have y3:=za (fF.trans (b:=_) gF a1) y3) | (go_at_call 187;(with_reducible refine(uK _ _).mono ?_);rintro e v2 ⟨rfl,a2⟩;have a0:=a0.trans (fF.trans (b:=_) gF a2);have y0:=za (fF.trans (b:=_) gF a2) y0;have y1:=za (fF.trans (b:=_) gF a2) y1;have y2:=za (fF.trans (b:=_) gF a2) y2;have y3:=za (fF.trans (b:=_) gF a2) y3) | (go_at_call 188;(with_reducible refine(zjE (Ty.up _ h3 (a0.trans gF)) hl3).mono ?_);rintro e v3 ⟨rfl,a3⟩;have a0:=a0.trans (fF.trans (b:=_) gF a3);have y0:=za (fF.trans (b:=_) gF a3) y0;have y1:=za (fF.trans (b:=_) gF a3) y1;have y2:=za (fF.trans (b:=_) gF a3) y2;have y3:=za (fF.trans (b:=_) gF a3) y3))
  all_goals
   go_ret
   refine⟨zy ?_,a0.trans gF⟩
   clear a0 y0 y1 y2 y3
   unfold ku tG nB px
   simp_all [qY,jZ,wK]
   try (intro ha;rename_i h0;rw[ha] at h0;simp at h0)
theorem Hs (h:gW x.Kind 0 7=U):ku x=U:=by unfold ku;rw[h];rfl
theorem vW (h:nB x=U):ku x=U:=by unfold ku;rw[h];cases gW x.Kind 0 7 <;> cases tG x <;> rfl
theorem F7 (h:4<x.fP.length):nB x=U:=by
 unfold nB oT;split
 ·rw[LK (by omega)];rfl
 ·exact LK (by omega)
theorem Ca (h:x.Kind≠0)(hl:0<x.fP.length):nB x=U:=by
 unfold nB;rw[Lt h];exact LK (by omega)
theorem Ir (h:x.Kind=0)(hg:mP [] x.fP=U):nB x=U:=by
 unfold nB oT;rw[Lu h,hg,OQ]
theorem CH (hl:0<x.fP.length)(hg:mP [] x.fP=U):nB x=U:=by
 by_cases h:x.Kind=0
 ·exact Ir h hg
 ·exact Ca h hl
theorem Gw (h4:x.fP.length<=4)(h:0<x.fP.length->x.Kind=0)(hg:mP [] x.fP=M):nB x=M:=by
 unfold nB oT;split
 ·rw[LN h4,hg];rfl
 ·rename_i hk
  exact LN (by
   rcases N3 x.fP.length with h1 | h1
   ·exact h1
   ·exact absurd (h h1) hk)
theorem Dm {xs:Q D} {y:D} (h:xs[i]?=H y):jy (xs.take (i+1)) s=(jy (xs.take i) s || decide (y=s)):=by
 unfold jy;rw[ME,h];simp
theorem Km {xs:Q D} {k:Nat} (h:i<=k)(hh:jy (xs.take i) s=M):jy (xs.take k) s=M:=by
 unfold jy at *
 rw[Nv] at *
 obtain⟨y,hy,he⟩:=hh;exact⟨y,(List.take_sublist_take_left h).subset hy,he⟩
theorem r9 {g:Prop} (f:g:=by
  go_wp2_with(first | (go_at_call 172;(with_reducible refine(wg _ _ bx).mono ?_);rw[HN.out];rintro e w1 ⟨rfl,rfl⟩))
  all_goals exact Ln (v:=X U) (by simp[Ly,results92,go_sem]) rfl ⟨by rw[HF.out],hgr.trans (hG.out.trans gF)⟩):g:=f
theorem zhy (b1:x.Name.size<=9223372036854775807)(h2:(iH.sl 9).R w w.heap.size [J A0 x.fP.length c0] x.fP)(h3:(iz.sl 159).R w w.heap.size [J A1 x.Expr.length c1] x.Expr)(hl2:x.fP.length<=1099511627776)(hl3:x.Expr.length<=1099511627776) :
  LR prog 92 #[.agg #[F I x.Kind,G x.Name,J A0 x.fP.length c0,J A1 x.Expr.length c1]] w fun e w'=>e=.returned (X (ku x))/\fF w w':=by
 have hgr:fF w (w.alloc (C #[F I x.Kind,G x.Name,J A0 x.fP.length c0,J A1 x.Expr.length c1] 87)):=gF;obtain⟨y0,y1,y2,y3,_,yl⟩:=jq (Lp w (C #[F I x.Kind,G x.Name,J A0 x.fP.length c0,J A1 x.Expr.length c1] 87));rcases LH (gW x.Kind 0 7) with hb | hb
 rotate_left
 ·have HB:=fE hb
  have HF:=fE (Hs hb);clear hb;go_enter func92,ntmps92;go_wp2_with(first | (go_at_call 33;(with_reducible refine(lj _ _ _ _).mono ?_);rw[HB.out];rintro e w1 ⟨rfl,rfl⟩));exact Ln (v:=X U) (by simp[Ly,results92,go_sem]) rfl ⟨by rw[HF.out],hgr.trans gF⟩
 have HB:=fE hb;clear hb;by_cases h4:4<x.fP.length
 ·have HF:=fE (vW (F7 h4))
  have a7:decide ((x.fP.length:Int) > 4)=M:=LN (by omega);clear h4;go_enter func92,ntmps92;go_wp2_with(first | (go_at_call 33;(with_reducible refine(lj _ _ _ _).mono ?_);rw[HB.out];rintro e w1 ⟨rfl,rfl⟩))
  all_goals exact Ln (v:=X U) (by simp[Ly,results92,go_sem]) rfl ⟨by rw[HF.out],hgr.trans gF⟩
 have a7:¬ ((x.fP.length:Int) > 4):=by omega
 have ae:¬ (4<(x.fP.length:Int)):=by omega
 obtain⟨q0,k0⟩:∃ q,(x.Kind == 0)=q:=⟨_,rfl⟩
 have n0:(x.Kind != 0) = !q0:=by rw[bne,k0]
 go_enter func92,ntmps92;go_wp2_with(first | (go_at_call 33;(with_reducible refine(lj _ _ _ _).mono ?_);rw[HB.out];rintro e w1 ⟨rfl,rfl⟩));go_loopw [3] (fun j wr=>∃(k:Nat),j=F I k/\k<=x.fP.length/\Hid (fF (w.alloc (C #[F I x.Kind,G x.Name,J A0 x.fP.length c0,J A1 x.Expr.length c1] 87)) wr)/\Hid (mP (x.fP.take k) (x.fP.drop k)=mP [] x.fP)/\Hid (0<k->q0=M)) (fun j _=>x.fP.length-(Ml j).toNat)
 case atStart=>exact⟨0,rfl,Lv _,fE gF,fE rfl,fE (by omega)⟩
 case round=>
  obtain⟨k,rfl,hk,hG,hE,hq⟩:=hrel;have u0:=za hG.out y0;have u1:=za hG.out y1;have u2:=za hG.out y2;have u3:=za hG.out y3;by_cases hlt:k<x.fP.length
  ·obtain⟨g,ag,s,rfl,a2,x0,bx⟩:=qu h2 hlt
   have aa:(k:Int)<(x.fP.length:Int):=by omega
   have ux:=za (hgr.trans hG.out) x0;have HA:=fE (CP a2);have ad:=fE a2;clear a2;rcases LH (mZ s) with hn | hn
   rotate_left
   ·have HN:=fE hn
    have HF:Hid (ku x=U):=fE (vW (CH (by omega) (by rw[<-hE.out,HA.out,hn];rfl)));clear hn;exact r9
   have HN:=fE hn;clear hn;cases q0 with
   | false=>
    have HF:Hid (ku x=U):=fE (vW (Ca (Lk.1 k0) (by omega)));exact r9
   | true=>
    go_wp2_with(first | (go_at_call 172;(with_reducible refine(wg _ _ bx).mono ?_);rw[HN.out];rintro e w1 ⟨rfl,rfl⟩));go_loopw [4] (fun j wi=>∃(i:Nat),j=F I i/\i<=k/\Hid (fF wr wi)/\Hid (jy (x.fP.take i) s=U)) (fun j _=>k-(Ml j).toNat)
    case atStart=>exact⟨0,rfl,Lv _,fE gF,fE rfl⟩
    case round=>
     obtain⟨i,rfl,hi,a0,a3⟩:=hrel;have v0:=za (hG.out.trans a0.out) y0;have v1:=za (hG.out.trans a0.out) y1;have v2:=za (hG.out.trans a0.out) y2;have v3:=za (hG.out.trans a0.out) y3;have vx:=za ((hgr.trans hG.out).trans a0.out) x0;by_cases hik:i<k
     ·obtain⟨g2,ac,r,a1,a5,r0,br⟩:=qu h2 (show i<x.fP.length by omega)
      injection a1 with a1
      injection a1 with e1 e2
      subst e1 e2;have vr:=za ((hgr.trans hG.out).trans a0.out) r0;have a9:(i:Int)<(k:Int):=by omega
      have af:(i:Int)<(x.fP.length:Int):=by omega
      have HR:=fE a5;clear a5;by_cases hs:r=s
      ·have HF:Hid (ku x=U):=fE (vW (CH (by omega) (by rw[<-hE.out,HA.out,Km (i:=i+1) (by omega) (by rw[Dm HR.out,hs];simp)];simp)))
       have ab:(r.toList == s.toList)=M:=by rw[mw];simp[hs]
       clear hs;go_wp2_with(fail);go_quiet (fail);go_wp2_with(fail)
       all_goals exact Ln (v:=X U) (by simp[Ly,results92,go_sem]) rfl ⟨by rw[HF.out],hgr.trans (hG.out.trans (a0.out.trans gF))⟩
      ·have HF:Hid (jy (x.fP.take (i+1)) s=U):=fE (by rw[Dm HR.out,a3.out];simp[hs])
       have ab:(r.toList == s.toList)=U:=by rw[mw];simp[hs]
       clear hs;go_wp2_with(fail);go_quiet (fail);go_wp2_with(fail);go_roundw;exact⟨i+1,by go_num,by omega,fE (a0.out.trans gF),HF⟩;exact gL
     ·obtain rfl:i=k:=by omega
      have a9:¬ ((i:Int)<(i:Int)):=by omega
      have HF:Hid (mP (x.fP.take (i+1)) (x.fP.drop (i+1))=mP [] x.fP):=fE (by rw[<-hE.out,HA.out,HN.out,a3.out];rfl);go_wp2_with(fail);go_roundw;exact⟨i+1,by go_num,by omega,fE (hG.out.trans (a0.out.trans gF)),HF,fE (by simp)⟩;exact gL
  ·obtain rfl:k=x.fP.length:=by omega
   have aa:¬ ((x.fP.length:Int)<(x.fP.length:Int)):=by omega
   have HF:Hid (ku x=(tG x && px x)):=fE (by
    unfold ku;rw[HB.out,Gw (by omega) (fun h=>by have:=hq.out h;rw[this] at k0;exact LM.1 k0) (by rw[<-hE.out,LY];rfl)]
    simp)
   have a6:=fE (F0 HB.out);have hgr:=hgr.trans hG.out;obtain⟨q1,k1⟩:∃ q,(x.Kind == 1)=q:=⟨_,rfl⟩
   clear hq hE;cases q0 <;> cases q1
   all_goals
    go_wp2_with(first | (go_at_call 172;(with_reducible refine(wg _ _ b1).mono ?_);rintro e w1 ⟨rfl,rfl⟩) | (go_at_call 173;(with_reducible refine(Ii _ _).mono ?_);rw[a6.out];rintro e v2 ⟨rfl,a4⟩;have hgr:=hgr.trans (fF.trans (b:=_) gF a4);have u3:=za (fF.trans (b:=_) gF a4) u3) | (go_at_call 174;(with_reducible refine(zjF (Ty.up _ h3 (hgr.trans gF)) hl3).mono ?_);rintro e v3 ⟨rfl,a8⟩;have hgr:=hgr.trans (fF.trans (b:=_) gF a8)))
   all_goals
    go_ret
    refine⟨zy ?_,hgr.trans gF⟩
    rw[HF.out]
    clear hgr
    unfold tG px
    simp_all [qY,jZ,wK]
theorem tZ (k:Int)(w:N):LR prog 175 #[F I k] w fun e w'=>e=.returned (X (kn k))/\w=w':=by
 go_enter func175,ntmps175;go_wp2_with(fail)
 all_goals
  go_ret
  refine⟨zy ?_,rfl⟩
  unfold kn
  simp_all [qY]
theorem pG {g:Prop} (f:g:=by
  have HF:Hid (zJ xs a=(i:Int)):=fE (by rw[<-hE.out,qh HX.out,Lu (by rw[HD.out];omega)])
  clear hz
  go_wp2_with(first | (go_at_call 175;(with_reducible refine(tZ _ _).mono ?_);rw[HO.out];rintro e w1 ⟨rfl,rfl⟩))
  exact Ln (v:=F I (i:Int)) (by simp[Ly,results94,go_sem]) rfl ⟨by rw[HF.out],hG.out.trans gF⟩):g:=f
theorem sx {g:Prop} (f:g:=by
  go_enter func94,ntmps94
  go_wp2_with(first | fail)
  all_goals exact Ln (v:=F I (-1)) (by simp[Ly,results94,go_sem]) rfl ⟨by rw[HF.out],gF⟩):g:=f
theorem sN {g:Prop} (f:g:=by
  go_roundw
  exact⟨o-1,i+1,by go_num,by go_num,by omega,by omega,by omega,by omega,fE (hG.out.trans gF),HF⟩
  exact gL):g:=f
theorem sO {g:Prop} (f:g:=by
  go_roundw
  exact⟨o+1,i+1,by go_num,by go_num,by omega,by omega,by omega,by omega,fE (hG.out.trans gF),HF⟩
  exact gL):g:=f
theorem sQ {g:Prop} (f:g:=by
  go_roundw
  exact⟨o,i+1,by go_num,by go_num,by omega,by omega,by omega,by omega,fE (hG.out.trans gF),HF⟩
  exact gL):g:=f
theorem zbn (hx:(zM.sl 87).R w w.heap.size [J A xs.length c] xs)(hl:xs.length<=1099511627776) :
  LR prog 94 #[J A xs.length c,F I k] w fun e w'=>e=.returned (F I (zJ xs k))/\fF w w':=by
 have au:Ll I ((xs.length:Int)-1)=(xs.length:Int)-1:=iw;by_cases hk:k<0
 ·have HF:Hid (zJ xs k = -1):=fE (yC hk)
  exact sx
 obtain⟨a,rfl⟩:∃ a:Nat,k=(a:Int):=⟨k.toNat,by omega⟩
 have an:¬ ((a:Int)<0):=hk;clear hk;by_cases hal:a<xs.length
 rotate_left
 ·have HF:Hid (zJ xs a = -1):=fE (by
   unfold zJ
   rw[Lt (by omega),Lw,MZ (by omega)])
  have al:(a:Int)≥(xs.length:Int):=by omega
  have a8:(xs.length:Int)<=(a:Int):=by omega
  clear hal;exact sx
 obtain⟨g,av,y,ab,af,ac,ag,rfl,ak,a1,y0,y1,y2,y3,b0,_,_,_⟩:=jb hx hal;have aj:(a:Int)<(xs.length:Int):=by omega
 have a5:¬ ((a:Int)≥(xs.length:Int)):=by omega
 have a6:¬ ((xs.length:Int)<=(a:Int)):=by omega
 rcases LH (kn y.Kind) with ho | ho
 rotate_left
 ·have HO:=fE ho
  have HF:Hid (zJ xs a = -1):=fE (by
   unfold zJ;rw[Lt (by omega),Lw,a1];simp only[ho]
   rfl)
  clear ho a1;go_enter func94,ntmps94;go_wp2_with(first | (go_at_call 175;(with_reducible refine(tZ _ _).mono ?_);rw[HO.out];rintro e w1 ⟨rfl,rfl⟩))
  all_goals exact Ln (v:=F I (-1)) (by simp[Ly,results94,go_sem]) rfl ⟨by rw[HF.out],gF⟩
 have a4:=fE ho
 have HE:Hid (mY (xs.drop a) 0 a=zJ xs a):=fE (by
  unfold zJ;rw[Lt (by omega),Lw,a1]
  simp only[ho,Nx])
 clear ho a1;go_enter func94,ntmps94;go_wp2_with(first | (go_at_call 175;(with_reducible refine(tZ _ _).mono ?_);rw[a4.out];rintro e w1 ⟨rfl,rfl⟩));go_loopw [5,6] (fun z j wr=>∃(o:Int) (i:Nat),z=F I o/\j=F I i/\a<=i/\i<=xs.length/\-(i:Int)<=o/\o<=(i:Int)/\Hid (fF w wr)/\Hid (mY (xs.drop i) o i=zJ xs a)) (fun _ j _=>xs.length-(Ml j).toNat)
 case atStart=>exact⟨0,a,rfl,rfl,Lz _,by omega,by omega,by omega,fE gF,HE⟩
 case round=>
  obtain⟨o,i,rfl,rfl,a7,am,ao,ap,hG,hE⟩:=hrel;by_cases hlt:i<xs.length
  ·obtain⟨g2,aa,x,ad,ah,ae,ai,a2,_,a3,x0,_,_,_,_,_,_,_⟩:=jb hx hlt
   injection a2 with a2
   injection a2 with e1 e2
   subst e1 e2;have a9:(i:Int)<(xs.length:Int):=by omega
   have HX:=fE a3;have vx:=za hG.out x0;clear a3 x0;have aq:Ll I (o+1)=o+1:=iw;have ar:Ll I (o-1)=o-1:=iw;rcases qe x with⟨q1,q2⟩ | ⟨q1,q3,q2⟩ | ⟨q1,q3,q2⟩
   ·have HO:=fE q1
    have HD:=fE q2;have h7:(x.Kind == 7)=U:=Lk.2 (fun h=>by rw[h] at q1;cases q1);clear q1 q2;by_cases hz:o+1=0
    ·have a0:(o+1 == 0)=M:=LM.2 hz
     exact pG
    ·have a0:(o+1 == 0)=U:=Lk.2 hz
     have HF:Hid (mY (xs.drop (i+1)) (o+1) (i+1)=zJ xs a):=fE (by rw[<-hE.out,qh HX.out,Lt (by rw[HD.out];omega),show o+jf x=o+1 from by have h:=HD.out;omega]);clear hz;go_wp2_with(first | (go_at_call 175;(with_reducible refine(tZ _ _).mono ?_);rw[HO.out];rintro e w1 ⟨rfl,rfl⟩));exact sO
   ·have HO:=fE q1
    have HD:=fE q2;have h7:(x.Kind == 7)=M:=LM.2 q3;clear q1 q2 q3;by_cases hz:o-1=0
    ·have a0:(o-1 == 0)=M:=LM.2 hz
     exact pG
    ·have a0:(o-1 == 0)=U:=Lk.2 hz
     have HF:Hid (mY (xs.drop (i+1)) (o-1) (i+1)=zJ xs a):=fE (by rw[<-hE.out,qh HX.out,Lt (by rw[HD.out];omega),show o+jf x=o-1 from by have h:=HD.out;omega]);clear hz;go_wp2_with(first | (go_at_call 175;(with_reducible refine(tZ _ _).mono ?_);rw[HO.out];rintro e w1 ⟨rfl,rfl⟩));exact sN
   ·have HO:=fE q1
    have HD:=fE q2;have h7:(x.Kind == 7)=U:=Lk.2 q3;clear q1 q2 q3;by_cases hz:o=0
    ·have a0:(o == 0)=M:=LM.2 hz
     exact pG
    ·have a0:(o == 0)=U:=Lk.2 hz
     have HF:Hid (mY (xs.drop (i+1)) (o) (i+1)=zJ xs a):=fE (by rw[<-hE.out,qh HX.out,Lt (by rw[HD.out];omega),show o+jf x=o from by have h:=HD.out;omega]);clear hz;go_wp2_with(first | (go_at_call 175;(with_reducible refine(tZ _ _).mono ?_);rw[HO.out];rintro e w1 ⟨rfl,rfl⟩));exact sQ
  ·obtain rfl:i=xs.length:=by omega
   have a9:¬ ((xs.length:Int)<(xs.length:Int)):=by omega
   have HF:Hid (zJ xs a = -1):=fE (by rw[<-hE.out,LY];rfl);go_wp2_with(fail);exact Ln (v:=F I (-1)) (by simp[Ly,results94,go_sem]) rfl ⟨by rw[HF.out],hG.out.trans gF⟩
theorem tY (k:Int)(w:N):LR prog 189 #[F I k] w fun e w'=>e=.returned (X (kn k))/\w=w':=by
 go_enter func189,ntmps189;go_wp2_with(fail)
 all_goals
  go_ret
  refine⟨zy ?_,rfl⟩
  unfold kn
  simp_all [qY]
theorem pF {g:Prop} (f:g:=by
  have HF:Hid (zJ xs a=(i:Int)):=fE (by rw[<-hE.out,qh HX.out,Lu (by rw[HD.out];omega)])
  clear hz
  go_wp2_with(first | (go_at_call 189;(with_reducible refine(tY _ _).mono ?_);rw[HO.out];rintro e w1 ⟨rfl,rfl⟩))
  exact Ln (v:=F I (i:Int)) (by simp[Ly,results107,go_sem]) rfl ⟨by rw[HF.out],hG.out.trans gF⟩):g:=f
theorem rY {g:Prop} (f:g:=by
  go_enter func107,ntmps107
  go_wp2_with(first | (go_at_call 43;(with_reducible refine(jr _ _ _ _).mono ?_);rw[HB.out];rintro e w1 ⟨rfl,rfl⟩) | fail)
  all_goals exact Ln (v:=F I (-1)) (by simp[Ly,results107,go_sem]) rfl ⟨by rw[HF.out],gF⟩):g:=f
theorem za2 (hx:(zM.sl 87).R w w.heap.size [J A xs.length c] xs)(hl:xs.length<=1099511627776) :
  LR prog 107 #[J A xs.length c,F I k] w fun e w'=>e=.returned (F I (zJ xs k))/\fF w w':=by
 have au:Ll I ((xs.length:Int)-1)=(xs.length:Int)-1:=iw;by_cases hk:k<0
 ·have HF:Hid (zJ xs k = -1):=fE (yC hk)
  have HB:Hid (gW k 0 ((xs.length:Int)-1)=U):=fE (by unfold gW;simp only[LC,LQ,NS,Me];omega);exact rY
 obtain⟨a,rfl⟩:∃ a:Nat,k=(a:Int):=⟨k.toNat,by omega⟩
 have an:¬ ((a:Int)<0):=hk;clear hk;by_cases hal:a<xs.length
 rotate_left
 ·have HF:Hid (zJ xs a = -1):=fE (by
   unfold zJ
   rw[Lt (by omega),Lw,MZ (by omega)])
  have al:(a:Int)≥(xs.length:Int):=by omega
  have a8:(xs.length:Int)<=(a:Int):=by omega
  have HB:Hid (gW (a:Int) 0 ((xs.length:Int)-1)=U):=fE (by unfold gW;simp only[LC,LQ,NS,Me];omega);clear hal;exact rY
 obtain⟨g,av,y,ab,af,ac,ag,rfl,ak,a1,y0,y1,y2,y3,b0,_,_,_⟩:=jb hx hal;have aj:(a:Int)<(xs.length:Int):=by omega
 have a5:¬ ((a:Int)≥(xs.length:Int)):=by omega
 have a6:¬ ((xs.length:Int)<=(a:Int)):=by omega
 have HB:Hid (gW (a:Int) 0 ((xs.length:Int)-1)=M):=fE (by unfold gW;simp only[LC,LQ,NS,Me];omega);rcases LH (kn y.Kind) with ho | ho
 rotate_left
 ·have HO:=fE ho
  have HF:Hid (zJ xs a = -1):=fE (by
   unfold zJ;rw[Lt (by omega),Lw,a1];simp only[ho]
   rfl)
  clear ho a1;go_enter func107,ntmps107;go_wp2_with(first | (go_at_call 43;(with_reducible refine(jr _ _ _ _).mono ?_);rw[HB.out];rintro e w1 ⟨rfl,rfl⟩) | (go_at_call 189;(with_reducible refine(tY _ _).mono ?_);rw[HO.out];rintro e w1 ⟨rfl,rfl⟩))
  all_goals exact Ln (v:=F I (-1)) (by simp[Ly,results107,go_sem]) rfl ⟨by rw[HF.out],gF⟩
 have a4:=fE ho
 have HE:Hid (mY (xs.drop a) 0 a=zJ xs a):=fE (by
  unfold zJ;rw[Lt (by omega),Lw,a1]
  simp only[ho,Nx])
 clear ho a1;go_enter func107,ntmps107;go_wp2_with(first | (go_at_call 43;(with_reducible refine(jr _ _ _ _).mono ?_);rw[HB.out];rintro e w1 ⟨rfl,rfl⟩) | (go_at_call 189;(with_reducible refine(tY _ _).mono ?_);rw[a4.out];rintro e w1 ⟨rfl,rfl⟩));go_loopw [5,6] (fun z j wr=>∃(o:Int) (i:Nat),z=F I o/\j=F I i/\a<=i/\i<=xs.length/\-(i:Int)<=o/\o<=(i:Int)/\Hid (fF w wr)/\Hid (mY (xs.drop i) o i=zJ xs a)) (fun _ j _=>xs.length-(Ml j).toNat)
 case atStart=>exact⟨0,a,rfl,rfl,Lz _,by omega,by omega,by omega,fE gF,HE⟩
 case round=>
  obtain⟨o,i,rfl,rfl,a7,am,ao,ap,hG,hE⟩:=hrel;by_cases hlt:i<xs.length
  ·obtain⟨g2,aa,x,ad,ah,ae,ai,a2,_,a3,x0,_,_,_,_,_,_,_⟩:=jb hx hlt
   injection a2 with a2
   injection a2 with e1 e2
   subst e1 e2;have a9:(i:Int)<(xs.length:Int):=by omega
   have HX:=fE a3;have vx:=za hG.out x0;clear a3 x0;have aq:Ll I (o+1)=o+1:=iw;have ar:Ll I (o-1)=o-1:=iw;rcases qe x with⟨q1,q2⟩ | ⟨q1,q3,q2⟩ | ⟨q1,q3,q2⟩
   ·have HO:=fE q1
    have HD:=fE q2;have h7:(x.Kind == 7)=U:=Lk.2 (fun h=>by rw[h] at q1;cases q1);clear q1 q2;by_cases hz:o+1=0
    ·have a0:(o+1 == 0)=M:=LM.2 hz
     exact pF
    ·have a0:(o+1 == 0)=U:=Lk.2 hz
     have HF:Hid (mY (xs.drop (i+1)) (o+1) (i+1)=zJ xs a):=fE (by rw[<-hE.out,qh HX.out,Lt (by rw[HD.out];omega),show o+jf x=o+1 from by have h:=HD.out;omega]);clear hz;go_wp2_with(first | (go_at_call 189;(with_reducible refine(tY _ _).mono ?_);rw[HO.out];rintro e w1 ⟨rfl,rfl⟩));exact sO
   ·have HO:=fE q1
    have HD:=fE q2;have h7:(x.Kind == 7)=M:=LM.2 q3;clear q1 q2 q3;by_cases hz:o-1=0
    ·have a0:(o-1 == 0)=M:=LM.2 hz
     exact pF
    ·have a0:(o-1 == 0)=U:=Lk.2 hz
     have HF:Hid (mY (xs.drop (i+1)) (o-1) (i+1)=zJ xs a):=fE (by rw[<-hE.out,qh HX.out,Lt (by rw[HD.out];omega),show o+jf x=o-1 from by have h:=HD.out;omega]);clear hz;go_wp2_with(first | (go_at_call 189;(with_reducible refine(tY _ _).mono ?_);rw[HO.out];rintro e w1 ⟨rfl,rfl⟩));exact sN
   ·have HO:=fE q1
    have HD:=fE q2;have h7:(x.Kind == 7)=U:=Lk.2 q3;clear q1 q2 q3;by_cases hz:o=0
    ·have a0:(o == 0)=M:=LM.2 hz
     exact pF
    ·have a0:(o == 0)=U:=Lk.2 hz
     have HF:Hid (mY (xs.drop (i+1)) (o) (i+1)=zJ xs a):=fE (by rw[<-hE.out,qh HX.out,Lt (by rw[HD.out];omega),show o+jf x=o from by have h:=HD.out;omega]);clear hz;go_wp2_with(first | (go_at_call 189;(with_reducible refine(tY _ _).mono ?_);rw[HO.out];rintro e w1 ⟨rfl,rfl⟩));exact sQ
  ·obtain rfl:i=xs.length:=by omega
   have a9:¬ ((xs.length:Int)<(xs.length:Int)):=by omega
   have HF:Hid (zJ xs a = -1):=fE (by rw[<-hE.out,LY];rfl);go_wp2_with(fail);exact Ln (v:=F I (-1)) (by simp[Ly,results107,go_sem]) rfl ⟨by rw[HF.out],hG.out.trans gF⟩
theorem tU (h:xs[i]?=H x)(s:D)(j:Nat):mi (xs.drop i) s j=if x.Kind=0/\x.Name=s then (j:Int) else mi (xs.drop (i+1)) s (j+1):=by
 obtain⟨h1,rfl⟩:=Lh.1 h;rw[LI h1];rfl
theorem yo (h:xs[i]?=H x)(j:Nat):iS (xs.drop i) j=if x.Kind=0 then (j:Int)::iS (xs.drop (i+1)) (j+1) else iS (xs.drop (i+1)) (j+1):=by
 obtain⟨h1,rfl⟩:=Lh.1 h;rw[LI h1];rfl
theorem nZ {g:Prop} (f:g:=by
  go_roundw
  exact⟨e'+1,n-1,by go_num,by omega,by omega,by omega,fE (hG.out.trans (fF.trans (b:=_) gF (hg2.trans gF))),HF⟩
  exact gL):g:=f
theorem r8 {g:Prop} (f:g:=by
  have HF:Hid (mx xs (n-1) (i+1) e=zx xs a):=fE (by rw[<-hE.out,hgo])
  have q4:(x.Kind == 4)=U:=Lk.2 h4
  clear hgo hxi x0 h4 h35
  go_wp2_with(fail)
  go_roundw
  exact⟨i+1,n-1,by go_num,by omega,by omega,by omega,fE (hG.out.trans gF),HF⟩
  exact gL):g:=f
theorem zfU (hx:(zM.sl 87).R w w.heap.size [J A xs.length c] xs)(hl:xs.length<=1099511627776) :
  LR prog 177 #[J A xs.length c,F I k] w fun e w'=>e=.returned (F I (zx xs k))/\fF w w':=by
 rcases po xs k with he | ⟨a,e,rfl,he,a0⟩
 ·have HE:=fE he
  have HF:Hid (zx xs k = -1):=fE (by unfold zx;rw[Lu (by omega)]);clear he;go_enter func177,ntmps177;go_wp2_with(first | (go_at_call 94;(with_reducible refine(zbn hx hl).mono ?_);rw[HE.out];rintro e1 v1 ⟨rfl,a2⟩))
  all_goals exact Ln (v:=F I (-1)) (by simp[Ly,results177,go_sem]) rfl ⟨by rw[HF.out],a2.trans gF⟩
 have HE:=fE he;have ad:=a0.len;have an:=a0.lt;obtain⟨g,ax,y,af,aj,ag,ak,rfl,au,a3,y0,_,_,_,b0,_,_,_⟩:=jb hx (show a<xs.length by omega);have ao:(a:Int)<(xs.length:Int):=by omega
 have ar:¬ ((e:Int)<0):=by omega
 have av:Ll I ((a:Int)+1)=(a:Int)+1:=iw;by_cases h3:y.Kind=3
 rotate_left
 ·have HF:Hid (zx xs a = -1):=fE (by
   unfold zx;rw[he,Lt (by omega),Lw,a3];simp only
   rw[Lt h3])
  have a9:(y.Kind != 3)=M:=by rw[jZ,LK h3];rfl
  clear he a3 h3;go_enter func177,ntmps177;go_wp2_with(first | (go_at_call 94;(with_reducible refine(zbn hx hl).mono ?_);rw[HE.out];rintro e1 v1 ⟨rfl,a2⟩;have u0:=za a2 y0))
  all_goals exact Ln (v:=F I (-1)) (by simp[Ly,results177,go_sem]) rfl ⟨by rw[HF.out],a2.trans gF⟩
 have HS:Hid (mx xs xs.length (a+1) e=zx xs a):=fE (by
  unfold zx;rw[he,Lt (by omega),Lw,a3];simp only
  rw[Lu h3])
 have a9:(y.Kind != 3)=U:=by rw[jZ,LN h3];rfl
 clear he a3 h3;go_enter func177,ntmps177;go_wp2_with(first | (go_at_call 94;(with_reducible refine(zbn hx hl).mono ?_);rw[HE.out];rintro e1 v1 ⟨rfl,a2⟩;have u0:=za a2 y0));go_loopw [6] (fun j wr=>∃(i n:Nat),j=F I i/\a<i/\i<=e/\e-i<n/\Hid (fF w wr)/\Hid (mx xs n i e=zx xs a)) (fun j _=>e-(Ml j).toNat)
 case atStart=>exact⟨a+1,xs.length,by go_num,by omega,by omega,by omega,fE (a2.trans gF),HS⟩
 case round=>
  obtain⟨i,n,rfl,a1,a7,hn,hG,hE⟩:=hrel;by_cases hlt:i<e
  ·obtain⟨g2,ae,x,ah,al,ai,am,a5,_,hxi,x0,_,_,_,_,_,_,_⟩:=jb hx (show i<xs.length by omega)
   injection a5 with a5
   injection a5 with e1 e2
   subst e1 e2;have a8:(i:Int)<(e:Int):=by omega
   have aa:(i:Int)<(xs.length:Int):=by omega
   have vx:=za hG.out x0;have hgo:=uJ a0 n i a1 a7 hn;rw[Lu a8,hxi] at hgo;simp only at hgo;by_cases h35:x.Kind=3∨x.Kind=5
   ·rw[Lu h35] at hgo
    obtain⟨e',a6,ab,ac⟩:=a0.inner a1 hlt hxi (by rcases h35 with h | h <;> rw[h] <;> decide);have a4:=fE a6.iy;have HF:Hid (mx xs (n-1) (e'+1) e=zx xs a):=fE (by rw[<-hE.out,hgo,a4.out,Lw]);have aw:Ll I ((e':Int)+1)=(e':Int)+1:=iw;have ap:(e':Int)≥0:=by omega
    have aq:(0:Int)≥0:=by omega
    clear hgo hxi x0;rcases h35 with h | h
    ·have q4:(x.Kind == 4)=U:=Lk.2 (by rw[h];decide)
     have q3:(x.Kind == 3)=M:=LM.2 h;clear h;go_wp2_with(first | (go_at_call 94;(with_reducible refine(zbn (Ty.up _ hx (hG.out.trans gF)) hl).mono ?_);rw[a4.out];rintro e2 v2 ⟨rfl,hg2⟩));exact nZ
    ·have q4:(x.Kind == 4)=U:=Lk.2 (by rw[h];decide)
     have q3:(x.Kind == 3)=U:=Lk.2 (by rw[h];decide);have q5:(x.Kind == 5)=M:=LM.2 h;clear h;go_wp2_with(first | (go_at_call 94;(with_reducible refine(zbn (Ty.up _ hx (hG.out.trans gF)) hl).mono ?_);rw[a4.out];rintro e2 v2 ⟨rfl,hg2⟩));exact nZ
   ·rw[Lt h35] at hgo
    have q3:(x.Kind == 3)=U:=Lk.2 (fun h=>h35 (.inl h));have q5:(x.Kind == 5)=U:=Lk.2 (fun h=>h35 (.inr h));by_cases h4:x.Kind=4
    ·rw[Lu h4] at hgo
     have HF:Hid (zx xs a=(i:Int)):=fE (by rw[<-hE.out,hgo]);have q4:(x.Kind == 4)=M:=LM.2 h4;clear hgo hxi x0 h4 h35;go_wp2_with(fail);exact Ln (v:=F I (i:Int)) (by simp[Ly,results177,go_sem]) rfl ⟨by rw[HF.out],hG.out.trans gF⟩
    ·rw[Lt h4] at hgo
     exact r8
  ·obtain rfl:i=e:=by omega
   have a8:¬ ((i:Int)<(i:Int)):=by omega
   have HF:Hid (zx xs a = -1):=fE (by rw[<-hE.out,uJ a0 n i a1 a7 hn,Lt (by omega)]);go_wp2_with(fail);exact Ln (v:=F I (-1)) (by simp[Ly,results177,go_sem]) rfl ⟨by rw[HF.out],hG.out.trans gF⟩
theorem zhq (hx:(zM.sl 87).R w w.heap.size [J A xs.length c] xs)(hl:xs.length<=1099511627776) :
  LR prog 110 #[J A xs.length c,F I k] w fun e w'=>e=.returned (F I (zx xs k))/\fF w w':=by
 rcases po xs k with he | ⟨a,e,rfl,he,a0⟩
 ·have HE:=fE he
  have HF:Hid (zx xs k = -1):=fE (by unfold zx;rw[Lu (by omega)]);clear he;go_enter func110,ntmps110;go_wp2_with(first | (go_at_call 107;(with_reducible refine(za2 hx hl).mono ?_);rw[HE.out];rintro e1 v1 ⟨rfl,a2⟩))
  all_goals exact Ln (v:=F I (-1)) (by simp[Ly,results110,go_sem]) rfl ⟨by rw[HF.out],a2.trans gF⟩
 have HE:=fE he;have ad:=a0.len;have an:=a0.lt;obtain⟨g,ax,y,af,aj,ag,ak,rfl,au,a3,y0,_,_,_,b0,_,_,_⟩:=jb hx (show a<xs.length by omega);have ao:(a:Int)<(xs.length:Int):=by omega
 have ar:¬ ((e:Int)<0):=by omega
 have av:Ll I ((a:Int)+1)=(a:Int)+1:=iw;by_cases h3:y.Kind=3
 rotate_left
 ·have HF:Hid (zx xs a = -1):=fE (by
   unfold zx;rw[he,Lt (by omega),Lw,a3];simp only
   rw[Lt h3])
  have a9:(y.Kind != 3)=M:=by rw[jZ,LK h3];rfl
  clear he a3 h3;go_enter func110,ntmps110;go_wp2_with(first | (go_at_call 107;(with_reducible refine(za2 hx hl).mono ?_);rw[HE.out];rintro e1 v1 ⟨rfl,a2⟩;have u0:=za a2 y0))
  all_goals exact Ln (v:=F I (-1)) (by simp[Ly,results110,go_sem]) rfl ⟨by rw[HF.out],a2.trans gF⟩
 have HS:Hid (mx xs xs.length (a+1) e=zx xs a):=fE (by
  unfold zx;rw[he,Lt (by omega),Lw,a3];simp only
  rw[Lu h3])
 have a9:(y.Kind != 3)=U:=by rw[jZ,LN h3];rfl
 clear he a3 h3;go_enter func110,ntmps110;go_wp2_with(first | (go_at_call 107;(with_reducible refine(za2 hx hl).mono ?_);rw[HE.out];rintro e1 v1 ⟨rfl,a2⟩;have u0:=za a2 y0));go_loopw [6] (fun j wr=>∃(i n:Nat),j=F I i/\a<i/\i<=e/\e-i<n/\Hid (fF w wr)/\Hid (mx xs n i e=zx xs a)) (fun j _=>e-(Ml j).toNat)
 case atStart=>exact⟨a+1,xs.length,by go_num,by omega,by omega,by omega,fE (a2.trans gF),HS⟩
 case round=>
  obtain⟨i,n,rfl,a1,a7,hn,hG,hE⟩:=hrel;by_cases hlt:i<e
  ·obtain⟨g2,ae,x,ah,al,ai,am,a5,_,hxi,x0,_,_,_,_,_,_,_⟩:=jb hx (show i<xs.length by omega)
   injection a5 with a5
   injection a5 with e1 e2
   subst e1 e2;have a8:(i:Int)<(e:Int):=by omega
   have aa:(i:Int)<(xs.length:Int):=by omega
   have vx:=za hG.out x0;have hgo:=uJ a0 n i a1 a7 hn;rw[Lu a8,hxi] at hgo;simp only at hgo;by_cases h35:x.Kind=3∨x.Kind=5
   ·rw[Lu h35] at hgo
    obtain⟨e',a6,ab,ac⟩:=a0.inner a1 hlt hxi (by rcases h35 with h | h <;> rw[h] <;> decide);have a4:=fE a6.iy;have HF:Hid (mx xs (n-1) (e'+1) e=zx xs a):=fE (by rw[<-hE.out,hgo,a4.out,Lw]);have aw:Ll I ((e':Int)+1)=(e':Int)+1:=iw;have ap:(e':Int)≥0:=by omega
    have aq:(0:Int)≥0:=by omega
    clear hgo hxi x0;rcases h35 with h | h
    ·have q4:(x.Kind == 4)=U:=Lk.2 (by rw[h];decide)
     have q3:(x.Kind == 3)=M:=LM.2 h;clear h;go_wp2_with(first | (go_at_call 107;(with_reducible refine(za2 (Ty.up _ hx (hG.out.trans gF)) hl).mono ?_);rw[a4.out];rintro e2 v2 ⟨rfl,hg2⟩));exact nZ
    ·have q4:(x.Kind == 4)=U:=Lk.2 (by rw[h];decide)
     have q3:(x.Kind == 3)=U:=Lk.2 (by rw[h];decide);have q5:(x.Kind == 5)=M:=LM.2 h;clear h;go_wp2_with(first | (go_at_call 107;(with_reducible refine(za2 (Ty.up _ hx (hG.out.trans gF)) hl).mono ?_);rw[a4.out];rintro e2 v2 ⟨rfl,hg2⟩));exact nZ
   ·rw[Lt h35] at hgo
    have q3:(x.Kind == 3)=U:=Lk.2 (fun h=>h35 (.inl h));have q5:(x.Kind == 5)=U:=Lk.2 (fun h=>h35 (.inr h));by_cases h4:x.Kind=4
    ·rw[Lu h4] at hgo
     have HF:Hid (zx xs a=(i:Int)):=fE (by rw[<-hE.out,hgo]);have q4:(x.Kind == 4)=M:=LM.2 h4;clear hgo hxi x0 h4 h35;go_wp2_with(fail);exact Ln (v:=F I (i:Int)) (by simp[Ly,results110,go_sem]) rfl ⟨by rw[HF.out],hG.out.trans gF⟩
    ·rw[Lt h4] at hgo
     exact r8
  ·obtain rfl:i=e:=by omega
   have a8:¬ ((i:Int)<(i:Int)):=by omega
   have HF:Hid (zx xs a = -1):=fE (by rw[<-hE.out,uJ a0 n i a1 a7 hn,Lt (by omega)]);go_wp2_with(fail);exact Ln (v:=F I (-1)) (by simp[Ly,results110,go_sem]) rfl ⟨by rw[HF.out],hG.out.trans gF⟩
theorem n7 {g:Prop} (f:g:=by
  go_wp2_with(fail)
  go_roundw
  exact⟨i+1,by go_num,by omega,fE (hG.out.trans gF),HF⟩
  exact gL):g:=f
theorem zcM (hx:(zM.sl 87).R w w.heap.size [J A xs.length c] xs)(hl:xs.length<=1099511627776) :
  LR prog 93 #[J A xs.length c,G s] w fun e w'=>e=.returned (F I (zQ xs s))/\fF w w':=by
 go_enter func93,ntmps93;go_wp2_with(fail);go_loopw [5] (fun j wr=>∃(i:Nat),j=F I i/\i<=xs.length/\Hid (fF w wr)/\Hid (mi (xs.drop i) s i=zQ xs s)) (fun j _=>xs.length-(Ml j).toNat)
 case atStart=>exact⟨0,rfl,Lv _,fE gF,fE rfl⟩
 case round=>
  obtain⟨i,rfl,hi,hG,hE⟩:=hrel;by_cases hlt:i<xs.length
  ·obtain⟨g,a8,x,a3,a5,a4,a6,rfl,a7,a0,x0,x1,x2,x3,b0,b1,_,_⟩:=jb hx hlt
   have a1:(i:Int)<(xs.length:Int):=by omega
   have v0:=za hG.out x0;have v1:=za hG.out x1;have v2:=za hG.out x2;have v3:=za hG.out x3;have HX:=fE a0;clear a0 x0 x1 x2 x3;by_cases h0:x.Kind=0
   ·have q0:(x.Kind == 0)=M:=LM.2 h0
    by_cases hs:x.Name=s
    ·have HF:Hid (zQ xs s=(i:Int)):=fE (by rw[<-hE.out,tU HX.out,Lu ⟨h0,hs⟩])
     have a2:(x.Name.toList == s.toList)=M:=by rw[mw];simp[hs]
     clear h0 hs;go_wp2_with(fail);exact Ln (v:=F I (i:Int)) (by simp[Ly,results93,go_sem]) rfl ⟨by rw[HF.out],hG.out.trans gF⟩
    ·have a2:(x.Name.toList == s.toList)=U:=by rw[mw];simp[hs]
     have HF:Hid (mi (xs.drop (i+1)) s (i+1)=zQ xs s):=fE (by rw[<-hE.out,tU HX.out,Lt (fun h=>hs h.2)]);clear h0 hs;exact n7
   ·have q0:(x.Kind == 0)=U:=Lk.2 h0
    have HF:Hid (mi (xs.drop (i+1)) s (i+1)=zQ xs s):=fE (by rw[<-hE.out,tU HX.out,Lt (fun h=>h0 h.1)]);clear h0;exact n7
  ·obtain rfl:i=xs.length:=by omega
   have a1:¬ ((xs.length:Int)<(xs.length:Int)):=by omega
   have HF:Hid (zQ xs s = -1):=fE (by rw[<-hE.out,LY];rfl);go_wp2_with(fail);exact Ln (v:=F I (-1)) (by simp[Ly,results93,go_sem]) rfl ⟨by rw[HF.out],hG.out.trans gF⟩
theorem zcL (hx:(zM.sl 87).R w w.heap.size [J A xs.length c] xs)(hl:xs.length<=1099511627776) :
  LR prog 108 #[J A xs.length c,G s] w fun e w'=>e=.returned (F I (zQ xs s))/\fF w w':=by
 go_enter func108,ntmps108;go_wp2_with(fail);go_loopw [9] (fun j wr=>∃(i:Nat),j=F I i/\i<=xs.length/\Hid (fF w wr)/\Hid (mi (xs.drop i) s i=zQ xs s)) (fun j _=>xs.length-(Ml j).toNat)
 case atStart=>exact⟨0,rfl,Lv _,fE gF,fE rfl⟩
 case round=>
  obtain⟨i,rfl,hi,hG,hE⟩:=hrel;by_cases hlt:i<xs.length
  ·obtain⟨g,a8,x,a3,a5,a4,a6,rfl,a7,a0,x0,x1,x2,x3,b0,b1,_,_⟩:=jb hx hlt
   have a1:(i:Int)<(xs.length:Int):=by omega
   have v0:=za hG.out x0;have v1:=za hG.out x1;have v2:=za hG.out x2;have v3:=za hG.out x3;have HX:=fE a0;clear a0 x0 x1 x2 x3;by_cases h0:x.Kind=0
   ·have q0:(x.Kind == 0)=M:=LM.2 h0
    by_cases hs:x.Name=s
    ·have HF:Hid (zQ xs s=(i:Int)):=fE (by rw[<-hE.out,tU HX.out,Lu ⟨h0,hs⟩])
     have a2:(x.Name.toList == s.toList)=M:=by rw[mw];simp[hs]
     clear h0 hs;go_wp2_with(fail);exact Ln (v:=F I (i:Int)) (by simp[Ly,results108,go_sem]) rfl ⟨by rw[HF.out],hG.out.trans gF⟩
    ·have a2:(x.Name.toList == s.toList)=U:=by rw[mw];simp[hs]
     have HF:Hid (mi (xs.drop (i+1)) s (i+1)=zQ xs s):=fE (by rw[<-hE.out,tU HX.out,Lt (fun h=>hs h.2)]);clear h0 hs;exact n7
   ·have q0:(x.Kind == 0)=U:=Lk.2 h0
    have HF:Hid (mi (xs.drop (i+1)) s (i+1)=zQ xs s):=fE (by rw[<-hE.out,tU HX.out,Lt (fun h=>h0 h.1)]);clear h0;exact n7
  ·obtain rfl:i=xs.length:=by omega
   have a1:¬ ((xs.length:Int)<(xs.length:Int)):=by omega
   have HF:Hid (zQ xs s = -1):=fE (by rw[<-hE.out,LY];rfl);go_wp2_with(fail);exact Ln (v:=F I (-1)) (by simp[Ly,results108,go_sem]) rfl ⟨by rw[HF.out],hG.out.trans gF⟩
theorem rT {g:Prop} (f:g:=by
  go_roundw
  case measure=>exact gL
  case rel=>
   have hwr:=hG.out.size
   refine⟨i+1,A8,0,c8,S8,acc++[(i:Int)],by simp,by go_num,by omega,by simp;omega,fE (hon.fO (hG.out.trans gF) hS.out),fE (by rw[Lj];exact hH8),fE (fun b hb=>?_),HF⟩
   rcases hS8 b hb with h | h
   ·exact hS.out b h
   ·(try simp at h);omega):g:=f
theorem sd {g:Prop} (f:g:=by
  have HF:Hid (acc++iS (xs.drop (i+1)) (i+1)=zk xs):=fE (by rw[<-hE.out,yo HX.out,Lt h0])
  clear h0
  go_wp2_with(fail)
  go_roundw
  exact⟨i+1,A5,0,c5,S,acc,rfl,by go_num,by omega,by omega,fE (hG.out.trans gF),fE (hH.out.fO gF),hS,HF⟩
  exact gL):g:=f
theorem zcA (hx:(zM.sl 87).R w w.heap.size [J A xs.length c] xs)(hl:xs.length<=1099511627776) :
  LR prog 91 #[J A xs.length c] w (ji (zk xs) w):=by
 go_enter func91,ntmps91;go_wp2_with(fail);go_loopw [3,4] (fun z j wr=>∃(i:Nat) (A5:K Mh) (n5 c5:Nat) (S:Q Nat) (acc:Q Int),z=J A5 acc.length c5/\j=F I i/\i<=xs.length/\acc.length<=i/\Hid (fF w wr)/\Hid (Has (zF.sl 3) wr [J A5 acc.length c5] acc S)/\Hid (∀ b∈S,w.heap.size<=b)/\Hid (acc++iS (xs.drop i) i=zk xs)) (fun _ j _=>xs.length-(Ml j).toNat)
 case atStart=>exact⟨0,_,0,0,[w.heap.size],[],rfl,rfl,Lv _,Lv _,fE gF,fE (Has.emp zF (zj (Lp _ _) gF)),fE (fun b hb=>by simp only[Lr] at hb;omega),fE rfl⟩
 case round=>
  obtain⟨i,A5,n5,c5,S,acc,rfl,rfl,hi,a1,hG,hH,hS,hE⟩:=hrel;by_cases hlt:i<xs.length
  ·obtain⟨g,a8,x,a3,a5,a4,a6,rfl,a7,a0,x0,x1,x2,x3,b0,b1,_,_⟩:=jb hx hlt
   have a2:(i:Int)<(xs.length:Int):=by omega
   have v0:=za hG.out x0;have v1:=za hG.out x1;have v2:=za hG.out x2;have v3:=za hG.out x3;have HX:=fE a0;clear a0 x0 x1 x2 x3;by_cases h0:x.Kind=0
   ·have q0:(x.Kind == 0)=M:=LM.2 h0
    have HF:Hid (acc++[(i:Int)]++iS (xs.drop (i+1)) (i+1)=zk xs):=fE (by rw[<-hE.out,yo HX.out,Lu h0];simp);clear h0;go_wp2_with(first | (refine zr (W1:=w) (L:=acc.length+1) rfl (.tmp 18) (.tmp 20) kJ zP (S:=S) (hH.out.fO gF) (ec:=[F I (i:Int)]) (y:=(i:Int)) (B:=0) ⟨rfl,by omega,by omega⟩ rfl rfl rfl (by intro j u hu;simpa[go_sem] using hu) rfl (by omega) (by omega) ?_;intro A8 c8 W8 S8 hon hH8 hS8));exact rT
   ·have q0:(x.Kind == 0)=U:=Lk.2 h0
    exact sd
  ·obtain rfl:i=xs.length:=by omega
   have a2:¬ ((xs.length:Int)<(xs.length:Int)):=by omega
   have HF:Hid (acc=zk xs):=fE (by have h:=hE.out;rw[LY,iS,MC] at h;exact h);go_wp2_with(fail);refine Ln (v:=J A5 acc.length c5) (by simp[Ly,results91,go_sem]) rfl ?_;rw[<-HF.out];exact⟨A5,c5,S,rfl,hH.out,hS.out,hG.out⟩
theorem zc4 (hx:(zM.sl 87).R w w.heap.size [J A xs.length c] xs)(hl:xs.length<=1099511627776) :
  LR prog 105 #[J A xs.length c] w (ji (zk xs) w):=by
 go_enter func105,ntmps105;go_wp2_with(fail);go_loopw [3,9] (fun z j wr=>∃(i:Nat) (A5:K Mh) (n5 c5:Nat) (S:Q Nat) (acc:Q Int),z=J A5 acc.length c5/\j=F I i/\i<=xs.length/\acc.length<=i/\Hid (fF w wr)/\Hid (Has (zF.sl 3) wr [J A5 acc.length c5] acc S)/\Hid (∀ b∈S,w.heap.size<=b)/\Hid (acc++iS (xs.drop i) i=zk xs)) (fun _ j _=>xs.length-(Ml j).toNat)
 case atStart=>exact⟨0,_,0,0,[w.heap.size],[],rfl,rfl,Lv _,Lv _,fE gF,fE (Has.emp zF (zj (Lp _ _) gF)),fE (fun b hb=>by simp only[Lr] at hb;omega),fE rfl⟩
 case round=>
  obtain⟨i,A5,n5,c5,S,acc,rfl,rfl,hi,a1,hG,hH,hS,hE⟩:=hrel;by_cases hlt:i<xs.length
  ·obtain⟨g,a8,x,a3,a5,a4,a6,rfl,a7,a0,x0,x1,x2,x3,b0,b1,_,_⟩:=jb hx hlt
   have a2:(i:Int)<(xs.length:Int):=by omega
   have v0:=za hG.out x0;have v1:=za hG.out x1;have v2:=za hG.out x2;have v3:=za hG.out x3;have HX:=fE a0;clear a0 x0 x1 x2 x3;by_cases h0:x.Kind=0
   ·have q0:(x.Kind == 0)=M:=LM.2 h0
    have HF:Hid (acc++[(i:Int)]++iS (xs.drop (i+1)) (i+1)=zk xs):=fE (by rw[<-hE.out,yo HX.out,Lu h0];simp);clear h0;go_wp2_with(first | (refine zr (W1:=w) (L:=acc.length+1) rfl (.tmp 17) (.tmp 19) kJ zP (S:=S) (hH.out.fO gF) (ec:=[F I (i:Int)]) (y:=(i:Int)) (B:=0) ⟨rfl,by omega,by omega⟩ rfl rfl rfl (by intro j u hu;simpa[go_sem] using hu) rfl (by omega) (by omega) ?_;intro A8 c8 W8 S8 hon hH8 hS8));exact rT
   ·have q0:(x.Kind == 0)=U:=Lk.2 h0
    exact sd
  ·obtain rfl:i=xs.length:=by omega
   have a2:¬ ((xs.length:Int)<(xs.length:Int)):=by omega
   have HF:Hid (acc=zk xs):=fE (by have h:=hE.out;rw[LY,iS,MC] at h;exact h);go_wp2_with(fail);refine Ln (v:=J A5 acc.length c5) (by simp[Ly,results105,go_sem]) rfl ?_;rw[<-HF.out];exact⟨A5,c5,S,rfl,hH.out,hS.out,hG.out⟩
end Go.Proofs.YtiihkapmggfjkaaGreat
