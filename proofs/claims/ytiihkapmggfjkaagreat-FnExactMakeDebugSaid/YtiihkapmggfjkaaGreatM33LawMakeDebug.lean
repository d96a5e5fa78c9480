/-
  PART.
-/
import Derived.Test.YtiihkapmggfjkaaGreatM21LawMakeDebug
import Derived.Test.YtiihkapmggfjkaaGreatM25LawMakeDebug
set_option linter.unusedVariables false
set_option linter.unusedSimpArgs false
set_option maxRecDepth 100000
set_option maxHeartbeats 8000000
namespace Go.Proofs.YtiihkapmggfjkaaGreat
open Value renaming slice->J,int->F,bool->X,string->G
open IntKind renaming i64->I,wrap->Ll
open Option renaming none->V,some->H
open Obj renaming cells->C
open Bool renaming false->U,true->M
open Go renaming World->N,results->Ly,Calls->LR,Addr->Mh
open World renaming cell?->Lg,frozen?->LD
open _root_.Int renaming toNat_natCast->Lw
open RowKit renaming intOf->Ml
open List renaming range'->Nn
open Tryz
open Go.RowKit
variable {A:K Mh}{L:Q D}{acc:Q gZ}{c i k m:Nat}{p:Q fG}{q:gZ}{s:D}{w:N}{x:fG}{xs:Q fQ}
theorem H4 {xs:Q fG} {d:Int} (hX:xs[i]?=H x)(hD:d=zu xs i-zu xs (k+1))(h0:x.Kind≠0)(h4:x.Kind≠4):∃ nd,nd=zu xs (i+1)-zu xs (k+1)/\
  (((x.Kind == 3)=M/\(x.Kind == 5)=U/\(x.Kind == 7)=U/\d+1=nd)∨((x.Kind == 3)=U/\(x.Kind == 5)=M/\(x.Kind == 7)=U/\d+1=nd)∨((x.Kind == 3)=U/\(x.Kind == 5)=U/\(x.Kind == 7)=M/\d-1=nd)∨((x.Kind == 3)=U/\(x.Kind == 5)=U/\(x.Kind == 7)=U/\d=nd)):=by
 have h1:=mc hX;refine⟨_,rfl,?_⟩;by_cases h3:x.Kind=3
 ·have h2:jf x=1:=by unfold jf;rw[h3];rfl
  exact .inl ⟨by rw[h3];rfl,by rw[h3];rfl,by rw[h3];rfl,by omega⟩
 by_cases h5:x.Kind=5
 ·have h2:jf x=1:=by unfold jf;rw[h5];rfl
  exact .inr (.inl ⟨by rw[h5];rfl,by rw[h5];rfl,by rw[h5];rfl,by omega⟩)
 by_cases h7:x.Kind=7
 ·have h2:jf x = -1:=by unfold jf;rw[h7];rfl
  exact .inr (.inr (.inl ⟨by rw[h7];rfl,by rw[h7];rfl,by rw[h7];rfl,by omega⟩))
 ·have h2:jf x=0:=by unfold jf kn;rw[LK h0,LK h3,LK h5,Lt (by decide),Lt h7]
  exact .inr (.inr (.inr ⟨Lk.2 h3,Lk.2 h5,Lk.2 h7,by omega⟩))
theorem FF (h:x.Kind=0):lZ p L k i x=U:=by unfold lZ;rw[LN h];rfl
theorem Bc (h:4<zu p (i+1)-zu p (k+1)):lZ p L k i x=U:=by unfold lZ;rw[LK (show ¬ (zu p (i+1)-zu p (k+1)<=4) by omega)];simp
theorem xe (h:zB p L x.Expr=U):lZ p L k i x=U:=by unfold lZ;rw[h];simp
theorem Fa (h4:x.Kind=4)(h:my p k i=U):lZ p L k i x=U:=by unfold lZ;rw[Lu h4,h];simp
theorem Cc (h0:x.Kind≠0)(h4:x.Kind=4->my p k i=M)(hd:zu p (i+1)-zu p (k+1)<=4)(h:zB p L x.Expr=M):lZ p L k i x=M:=by
 unfold lZ;rw[h,LN hd,LK h0];by_cases h:x.Kind=4
 ·rw[Lu h,h4 h];rfl
 ·rw[Lt h];rfl
theorem oM {l:Q gu} {t:Nat} {y:gu} (h:l[t]?=H y)(f:gu->Bool):(l.drop t).all f=(f y && (l.drop (t+1)).all f):=by
 obtain⟨h1,rfl⟩:=Lh.1 h;rw[LI h1];rfl
theorem Ip (hh:jy L s=M):¬ (ja L s 0<0):=fun h=>by
 have h1:=ub s L;rw[show (L.any fun y=>decide (y=s))=M from hh] at h1;have h2:=Ng h1;omega
theorem JC (hh:jy L s=U):ja L s 0<0:=by
 have h1:=ub s L;rw[show (L.any fun y=>decide (y=s))=U from hh] at h1;have h2:=Oo h1;omega
theorem BB (s:D):∀(l:Q fG)(j:Nat),mi l s j = -1∨∃(f:Nat)(z:fG),mi l s j=((j+f:Nat):Int)/\l[f]?=H z
 | [],_=>.inl rfl
 | x::r,j=>by
  unfold mi;split
  ·exact .inr ⟨0,x,rfl,rfl⟩
  ·rcases BB s r (j+1) with h | ⟨f,z,h1,h2⟩
   ·exact .inl h
   ·exact .inr ⟨f+1,z,by rw[h1];congr 1;omega,h2⟩
theorem AW (p:Q fG)(s:D):zQ p s = -1∨∃(f:Nat)(z:fG),zQ p s=(f:Int)/\p[f]?=H z:=by
 rcases BB s p 0 with h | ⟨f,z,h1,h2⟩
 ·exact .inl h
 ·exact .inr ⟨f,z,by rw[zQ,h1,Mb],h2⟩
theorem vq {g:Prop} (f:g:=by
  have HY:=fE hyk
  clear hyk
  subst hA5
  have w0:=za hGt.out y0
  have w1:=za hGt.out y1
  have w2:=za hGt.out y2
  have hg5w:=Li hg5 hGt.out.size
  have hgw:=Li hgb hGt.out.size
  have htn:(t:Int)<(x.Expr.length:Int):=by omega
  by_cases k1:y.Kind=1
  ·have q1:(y.Kind == 1)=M:=LM.2 k1
   have q7:(y.Kind == 7)=U:=Lk.2 (by rw[k1];decide)
   rcases LH (jy L y.Name) with hh | hh
   ·have hix:¬ (ja L y.Name 0<0):=Ip hh
    have HT2:Hid ((x.Expr.drop (t+1)).all (zD xs L)=zB xs L x.Expr):=fE (by rw[<-hT.out,oM HY.out,zD,Lu k1,hh];rfl)
    clear hh k1
    go_wp2_with(first | (go_at_call 178;(with_reducible refine(zeG (xs:=L) (Ty.up _ hHw.out (hGt.out.trans gF)) hLb).mono ?_);rintro e2 v2 ⟨rfl,hg2⟩;obtain⟨bx0,bx1,bx2,_⟩:=pA (zj (Lp wr (C #[F I y.Kind,F I y.gN,G y.Name] 159)) (fF.trans (b:=_) gF hg2))))
    go_roundw
    exact⟨t+1,by go_num,by omega,fE (hGt.out.trans (fF.trans (b:=_) gF (hg2.trans gF))),HT2⟩
    exact gL
   ·have hix:ja L y.Name 0<0:=JC hh
    have hfalse:zD xs L y=U:=by rw[zD,Lu k1,hh]
    clear hh k1
    have HF2:Hid (lu xs k e=U):=fE (by rw[HBO.out,<-hE.out,pR HX.out hlt,xe (by rw[<-hT.out,oM HY.out,hfalse];rfl)];simp)
    clear hfalse
    go_wp2_with(first | (go_at_call 178;(with_reducible refine(zeG (xs:=L) (Ty.up _ hHw.out (hGt.out.trans gF)) hLb).mono ?_);rintro e2 v2 ⟨rfl,hg2⟩;obtain⟨bx0,bx1,bx2,_⟩:=pA (zj (Lp wr (C #[F I y.Kind,F I y.gN,G y.Name] 159)) (fF.trans (b:=_) gF hg2))))
    all_goals exact Ln (v:=X U) (by simp[Ly,results95,go_sem]) rfl ⟨by rw[HF2.out],hg1.trans (hGt.out.trans (fF.trans (b:=_) gF (hg2.trans gF)))⟩
  ·have q1:(y.Kind == 1)=U:=Lk.2 k1
   by_cases k7:y.Kind=7
   ·have q7:(y.Kind == 7)=M:=LM.2 k7
    rcases AW xs y.Name with hff | ⟨f,z,hff,hz⟩
    ·have HFF:=fE hff
     have hfalse:zD xs L y=U:=by rw[zD,Lt k1,Lu k7,hff];rfl
     have HF2:Hid (lu xs k e=U):=fE (by rw[HBO.out,<-hE.out,pR HX.out hlt,xe (by rw[<-hT.out,oM HY.out,hfalse];rfl)];simp)
     clear hff k1 k7 hfalse
     go_wp2_with(first | (go_at_call 93;(with_reducible refine(zcM (Ty.up _ hx (hg1.trans (hGt.out.trans gF))) hl).mono ?_);rw[HFF.out];rintro e2 v2 ⟨rfl,hg2⟩;obtain⟨bx0,bx1,bx2,_⟩:=pA (zj (Lp wr (C #[F I y.Kind,F I y.gN,G y.Name] 159)) (fF.trans (b:=_) gF hg2))))
     go_quiet (fail)
     go_wp2_with(fail)
     all_goals exact Ln (v:=X U) (by simp[Ly,results95,go_sem]) rfl ⟨by rw[HF2.out],hg1.trans (hGt.out.trans (fF.trans (b:=_) gF (hg2.trans gF)))⟩
    ·obtain⟨g6,off6,z',A60,c60,A61,c61,hA6,_,hz',z0,z1,z2,z3,_⟩:=jb (Ty.up _ hx hg1) (Lh.1 hz).1
     obtain rfl:z'=z:=by rw[hz] at hz';injection hz' with h;exact h.symm
     injection hA6 with hA6
     injection hA6 with e1 e2
     subst e1 e2
     have wz:=za hGt.out z2
     have hfl:f<xs.length:=(Lh.1 hz).1
     have hfi:(f:Int)<(xs.length:Int):=by omega
     have hf0:¬ ((f:Int)<0):=by omega
     have HFF:=fE hff
     by_cases har:(z'.fP.length:Int)=y.gN
     ·have harb:((z'.fP.length:Int) != y.gN)=U:=by rw[jZ,LN har];rfl
      have HT2:Hid ((x.Expr.drop (t+1)).all (zD xs L)=zB xs L x.Expr):=fE (by rw[<-hT.out,oM HY.out,zD,Lt k1,Lu k7,hff,Lt hf0,Lw,hz];simp only;rw[LN har];rfl)
      clear hff hz hz' k1 k7 har
      go_wp2_with(first | (go_at_call 93;(with_reducible refine(zcM (Ty.up _ hx (hg1.trans (hGt.out.trans gF))) hl).mono ?_);rw[HFF.out];rintro e2 v2 ⟨rfl,hg2⟩;obtain⟨bx0,bx1,bx2,_⟩:=pA (zj (Lp wr (C #[F I y.Kind,F I y.gN,G y.Name] 159)) (fF.trans (b:=_) gF hg2));have ff2:=za (fF.trans (b:=_) gF hg2) wz))
      go_quiet (fail)
      go_wp2_with(fail)
      go_roundw
      exact⟨t+1,by go_num,by omega,fE (hGt.out.trans (fF.trans (b:=_) gF (hg2.trans gF))),HT2⟩
      exact gL
     ·have harb:((z'.fP.length:Int) != y.gN)=M:=by rw[jZ,LK har];rfl
      have hfalse:zD xs L y=U:=by rw[zD,Lt k1,Lu k7,hff,Lt hf0,Lw,hz];simp only;rw[LK har]
      have HF2:Hid (lu xs k e=U):=fE (by rw[HBO.out,<-hE.out,pR HX.out hlt,xe (by rw[<-hT.out,oM HY.out,hfalse];rfl)];simp)
      clear hff hz hz' k1 k7 har hfalse
      go_wp2_with(first | (go_at_call 93;(with_reducible refine(zcM (Ty.up _ hx (hg1.trans (hGt.out.trans gF))) hl).mono ?_);rw[HFF.out];rintro e2 v2 ⟨rfl,hg2⟩;obtain⟨bx0,bx1,bx2,_⟩:=pA (zj (Lp wr (C #[F I y.Kind,F I y.gN,G y.Name] 159)) (fF.trans (b:=_) gF hg2));have ff2:=za (fF.trans (b:=_) gF hg2) wz))
      go_quiet (fail)
      go_wp2_with(fail)
      all_goals exact Ln (v:=X U) (by simp[Ly,results95,go_sem]) rfl ⟨by rw[HF2.out],hg1.trans (hGt.out.trans (fF.trans (b:=_) gF (hg2.trans gF)))⟩
   ·have q7:(y.Kind == 7)=U:=Lk.2 k7
    have HT2:Hid ((x.Expr.drop (t+1)).all (zD xs L)=zB xs L x.Expr):=fE (by rw[<-hT.out,oM HY.out,zD,Lt k1,Lt k7];rfl)
    clear k1 k7
    go_wp2_with(fail)
    go_roundw
    exact⟨t+1,by go_num,by omega,fE (hGt.out.trans gF),HT2⟩
    exact gL):g:=f
theorem sF {g:Prop} (f:g:=by
  go_wp2_with(fail)
  all_goals exact Ln (v:=X U) (by simp[Ly,results95,go_sem]) rfl ⟨by rw[HF.out],hg1.trans (hGi.out.trans gF)⟩):g:=f
theorem sG {g:Prop} (f:g:=by
  go_wp2_with(fail)
  all_goals exact Ln (v:=X U) (by simp[Ly,results95,go_sem]) rfl ⟨by rw[HF.out],hg1.trans (hG.out.trans gF)⟩):g:=f
theorem zqN {xs:Q fG} {e:Nat} (hx:(zM.sl 87).R w w.heap.size [J A xs.length c] xs)(hl:xs.length<=1099511627776)(hs:∀ x∈xs,x.fP.length<=1099511627776/\x.Expr.length<=1099511627776)(hends:gg xs k e) :
  LR prog 95 #[J A xs.length c,F I k,F I e] w fun r w'=>r=.returned (X (lu xs k e))/\fF w w':=by
 have ak:=hends.len;have av:=hends.lt;obtain⟨L,hL⟩:∃ L,zq xs k=L:=⟨_,rfl⟩
 have a6:=zg8 (k:=(k:Int)) hx hl hs;rw[hL] at a6;obtain⟨B,hB⟩:∃ B,oU xs L k (xs.drop (k+1)) (e-(k+1)) (k+1)=B:=⟨_,rfl⟩
 have a1:Hid (lu xs k e=(decide (L.length<=8) && B)):=fE (by unfold lu;rw[hL,hB]);have HB:=fE hB;clear hL hB;by_cases h8:8<L.length
 ·have HF:Hid (lu xs k e=U):=fE (by rw[a1.out,LK (by omega)];rfl)
  have af:(L.length:Int) > 8:=by omega
  clear h8;go_enter func95,ntmps95;go_wp2_with(first | (go_at_call 176;(with_reducible refine a6.mono ?_);rintro e1 v1 ⟨AL,cL,SL,rfl,ab,ag,hg1⟩))
  all_goals exact Ln (v:=X U) (by simp[Ly,results95,go_sem]) rfl ⟨by rw[HF.out],hg1.trans gF⟩
 have HBO:Hid (lu xs k e=B):=fE (by rw[a1.out,LN (by omega)];rfl);have hLb:L.length<=8796093022208:=by omega
 have af:¬ ((L.length:Int) > 8):=by omega
 have ap:¬ (8<(L.length:Int)):=by omega
 have aB:Ll I ((k:Int)+1)=(k:Int)+1:=iw;clear h8;go_enter func95,ntmps95;go_wp2_with(first | (go_at_call 176;(with_reducible refine a6.mono ?_);rintro e1 v1 ⟨AL,cL,SL,rfl,ab,ag,hg1⟩));have hHw:Hid ((iH.sl 9).R v1 v1.heap.size [J AL L.length cL] L):=fE ab.read;go_loopw [8,9] (fun z j wr=>∃(i:Nat) (d:Int),z=F I d/\j=F I i/\k<i/\i<=e/\-(i:Int)<=d/\d<=(i:Int)/\Hid (d=zu xs i-zu xs (k+1))/\Hid (fF v1 wr)/\Hid (oU xs L k (xs.drop i) (e-i) i=B)) (fun _ j _=>e-(Ml j).toNat)
 case atStart=>exact⟨k+1,0,rfl,by go_num,by omega,by omega,by omega,by omega,fE (by omega),fE gF,HB⟩
 case round=>
  obtain⟨i,d,rfl,rfl,aw,au,aq,ar,hD,hG,hE⟩:=hrel;by_cases hlt:i<e
  ·obtain⟨g,aD,x,al,an,am,ao,rfl,hgb,a9,x0,x1,x2,x3,b0,b1,_,h3⟩:=jb (Ty.up _ hx hg1) (show i<xs.length by omega)
   have ai:(i:Int)<(e:Int):=by omega
   have ah:(i:Int)<(xs.length:Int):=by omega
   have v0:=za hG.out x0;have v3:=za hG.out x3;have HX:=fE a9;have aC:=(hs x (LP a9)).2;have hgw:=Li hgb hG.out.size;clear a9;have az:Ll I (d+1)=d+1:=iw;have aA:Ll I (d-1)=d-1:=iw;by_cases hk0:x.Kind=0
   ·have r0:(x.Kind == 0)=M:=LM.2 hk0
    have HF:Hid (lu xs k e=U):=fE (by rw[HBO.out,<-hE.out,pR HX.out hlt,FF hk0];rfl);clear hk0;exact sG
   by_cases hk:x.Kind=4
   ·have r0:(x.Kind == 0)=U:=Lk.2 (by rw[hk];decide)
    have r3:(x.Kind == 3)=U:=Lk.2 (by rw[hk];decide);have r5:(x.Kind == 5)=U:=Lk.2 (by rw[hk];decide);have r7:(x.Kind == 7)=U:=Lk.2 (by rw[hk];decide);have r4:(x.Kind == 4)=M:=LM.2 hk;have HN:Hid (d=zu xs (i+1)-zu xs (k+1)):=fE (by have h1:=mc HX.out;have h2:jf x=0:=(by unfold jf;rw[hk];rfl);have h3:=hD.out;omega);have a4:Hid (x.Kind≠0):=fE (by rw[hk];decide);have ad:=fE hk;clear hk hk0;go_wp2_with(fail);go_loopw [10,11] (fun z j wi=>∃(b:Bool) (q:Nat),z=X b/\j=F I q/\k<=q/\q<=i/\Hid (fF v1 wi)/\Hid ((b || (Nn q (i-q)).any fun j=>decide (zx xs j=i))=my xs k i)) (fun _ j _=>i-(Ml j).toNat)
    case atStart=>exact⟨U,k,rfl,rfl,Lz _,by omega,fE (hG.out.trans gF),fE rfl⟩
    case round=>
     obtain⟨b,q,rfl,rfl,ax,ay,hGi,a2⟩:=hrel;by_cases hq:q<i
     ·have a8:(q:Int)<(i:Int):=by omega
      cases b with
      | true=>
       have HF:Hid ((M || (Nn (q+1) (i-(q+1))).any fun j=>decide (zx xs j=i))=my xs k i):=fE (by rw[<-a2.out];rfl);go_wp2_with(fail);go_roundw;exact⟨M,q+1,by go_num,by go_num,by omega,by omega,fE (hGi.out.trans gF),HF⟩;exact gL
      | false=>
       obtain⟨r,hr⟩:∃ r,zx xs q=r:=⟨_,rfl⟩
       have HR:=fE hr
       have HF:Hid (((r == (i:Int)) || (Nn (q+1) (i-(q+1))).any fun j=>decide (zx xs j=i))=my xs k i):=fE (by
        rw[<-a2.out,show i-q=(i-(q+1))+1 from by omega,OK,List.any_cons,hr,qY]
        rfl)
       clear hr;go_wp2_with(first | (go_at_call 177;(with_reducible refine(zfU (Ty.up _ hx (hg1.trans (hGi.out.trans gF))) hl).mono ?_);rw[HR.out];rintro e2 v2 ⟨rfl,hg2⟩));go_roundw;exact⟨(r == (i:Int)),q+1,by go_num,by go_num,by omega,by omega,fE (hGi.out.trans (fF.trans (b:=_) gF (hg2.trans gF))),HF⟩;exact gL
     ·obtain rfl:q=i:=by omega
      have a8:¬ ((q:Int)<(q:Int)):=by omega
      cases b with
      | false=>
       have HF:Hid (lu xs k e=U):=fE (by rw[HBO.out,<-hE.out,pR HX.out hlt,Fa ad.out (by rw[<-a2.out,Mq];rfl)];rfl);exact sF
      | true=>
       have a0:Hid (x.Kind=4->my xs k q=M):=fE (fun _=>by rw[<-a2.out];rfl);by_cases h4:4<d
       ·have HF:Hid (lu xs k e=U):=fE (by rw[HBO.out,<-hE.out,pR HX.out hlt,Bc (by rw[<-HN.out];omega)];simp)
        have a5:d > 4:=h4;clear h4;exact sF
       have a5:¬ (d > 4):=h4;have ae:¬ (4<d):=h4;clear h4;go_wp2_with(fail);go_loopw [12] (fun j wt=>∃(t:Nat),j=F I t/\t<=x.Expr.length/\Hid (fF v1 wt)/\Hid ((x.Expr.drop t).all (zD xs L)=zB xs L x.Expr)) (fun j _=>x.Expr.length-(Ml j).toNat)
       case atStart=>exact⟨0,rfl,Lv _,fE (hGi.out.trans gF),fE rfl⟩
       case round=>
        obtain⟨t,rfl,ht,hGt,hT⟩:=hrel;have w3:=za hGt.out x3;by_cases htl:t<x.Expr.length
        ·obtain⟨g5,aa,y,hA5,hg5,hyk,y0,y1,y2,yk,yn,ys⟩:=mj h3 htl
         exact vq
        ·obtain rfl:t=x.Expr.length:=by omega
         have htn:¬ ((x.Expr.length:Int)<(x.Expr.length:Int)):=by omega
         have a3:Hid (oU xs L k (xs.drop (q+1)) (e-(q+1)) (q+1)=B):=fE (by
          rw[<-hE.out,pR HX.out hlt,Cc a4.out a0.out (by rw[<-HN.out];omega) (by rw[<-hT.out,LY];rfl)]
          rfl)
         go_wp2_with(fail);go_roundw;exact⟨q+1,d,by go_num,by go_num,by omega,by omega,by omega,by omega,HN,fE (hGt.out.trans gF),a3⟩;exact gL
   obtain⟨nd,ac,aj⟩:=H4 HX.out hD.out hk0 hk;have r0:(x.Kind == 0)=U:=Lk.2 hk0;have r4:(x.Kind == 4)=U:=Lk.2 hk;have HN:=fE ac;have a4:=fE hk0;have a0:Hid (x.Kind=4->my xs k i=M):=fE (fun h=>absurd h hk);clear hk0 hk ac;rcases aj with⟨r3,r5,r7,a7⟩ | ⟨r3,r5,r7,a7⟩ | ⟨r3,r5,r7,a7⟩ | ⟨r3,r5,r7,a7⟩
   all_goals
    by_cases h4:4<nd
    ·have HF:Hid (lu xs k e=U):=fE (by rw[HBO.out,<-hE.out,pR HX.out hlt,Bc (by rw[<-HN.out];omega)];simp)
     have a5:nd > 4:=h4;clear h4;exact sG
    have a5:¬ (nd > 4):=h4
    have ae:¬ (4<nd):=h4
    clear h4
    go_wp2_with(fail)
    go_loopw [12] (fun j wt=>∃(t:Nat),j=F I t/\t<=x.Expr.length/\Hid (fF v1 wt)/\Hid ((x.Expr.drop t).all (zD xs L)=zB xs L x.Expr)) (fun j _=>x.Expr.length-(Ml j).toNat)
    case atStart=>exact⟨0,rfl,Lv _,fE (hG.out.trans gF),fE rfl⟩
    case round=>
     obtain⟨t,rfl,ht,hGt,hT⟩:=hrel;have w3:=za hGt.out x3;by_cases htl:t<x.Expr.length
     ·obtain⟨g5,aa,y,hA5,hg5,hyk,y0,y1,y2,yk,yn,ys⟩:=mj h3 htl
      exact vq
     ·obtain rfl:t=x.Expr.length:=by omega
      have htn:¬ ((x.Expr.length:Int)<(x.Expr.length:Int)):=by omega
      have a3:Hid (oU xs L k (xs.drop (i+1)) (e-(i+1)) (i+1)=B):=fE (by
       rw[<-hE.out,pR HX.out hlt,Cc a4.out a0.out (by rw[<-HN.out];omega) (by rw[<-hT.out,LY];rfl)]
       rfl)
      go_wp2_with(fail);go_roundw;exact⟨i+1,nd,by go_num,by go_num,by omega,by omega,by omega,by omega,HN,fE (hGt.out.trans gF),a3⟩;exact gL
  ·obtain rfl:i=e:=by omega
   have ai:¬ ((i:Int)<(i:Int)):=by omega
   have HF:Hid (lu xs k i=M):=fE (by rw[HBO.out,<-hE.out,Mq];cases xs.drop i <;> rfl);go_wp2_with(fail);exact Ln (v:=X M) (by simp[Ly,results95,go_sem]) rfl ⟨by rw[HF.out],hg1.trans (hG.out.trans gF)⟩
def DD (xs:Q gZ)(w:N)(r:Ending)(w':N):Prop:=∃ A c S,r=.returned (J A xs.length c)/\Has (jJ.sl 137) w' [J A xs.length c] xs S/\(∀ b∈S,w.heap.size<=b)/\fF w w'
def lT (x:fQ):gZ:=⟨x.Offset,x.Offset+zA x.Item.Op.Code,x.Item.fI,x.Item.fK⟩
theorem DR {e:TypeId} {W:N} {n:Nat} {xs:Q gZ} {S:Q Nat} (h:Has (jJ.sl e) W [J A n c] xs S)(hq:xs[m]?=H q):∃ g,A=H ⟨g,0,V⟩/\g∈S/\g<W.heap.size/\(∀ j,LD W ⟨g,j,V⟩=U)/\
  Lg W ⟨g,m*4,V⟩=H (F I q.Start)/\Lg W ⟨g,m*4+1,V⟩=H (F I q.End)/\Lg W ⟨g,m*4+2,V⟩=H (X q.Frame)/\Lg W ⟨g,m*4+3,V⟩=H (F I q.fK)/\
  ∀ v,fV v->Has (jJ.sl e) (W.setCell ⟨g,m*4+1,V⟩ (F I v)) [J A n c] (xs.set m { q with End:=v }) S/\fJ S W (W.setCell ⟨g,m*4+1,V⟩ (F I v)):=by
 obtain⟨g,ec,Sc,rfl,a1,a2,_,_,_,hO,hf,hc,a0,_⟩:=mN h.1 h.2 hq;obtain⟨rfl,rfl,b0,b1,b2⟩:=En hO;refine⟨g,rfl,a1,a2,hf,hc 0 _ rfl,hc 1 _ rfl,hc 2 _ rfl,hc 3 _ rfl,fun v hv=>?_⟩;have hp:=a0 1 (F I v) { q with End:=v } (by decide) rfl (I0 (x:={ q with End:=v }) b0 hv b2);exact⟨⟨hp.1,h.2⟩,hp.2⟩
theorem sv {g:Prop} (f:g:=by
  by_cases hjm:j<m
  ·rw[Md (by simp;omega),List.getElem?_dropLast,Lu (by omega)]
  ·rw[MZ (by simp;omega),MZ (by omega)]):g:=f
theorem Bj {x:fQ} (hq:acc[m]?=H q)(hn:acc.length=m+1)(h:q.End=x.Offset/\q.Frame=x.Item.fI/\q.fK=x.Item.fK):mO acc x=acc.set m { q with End:=x.Offset+zA x.Item.Op.Code }:=by
 have hl:acc.getLast?=H q:=by rw[Oj,hn];exact hq
 unfold mO;simp only[hl];rw[Lu h];apply Nr;intro j;rw[NY];by_cases hj:m=j
 ·subst hj
  rw[Lu rfl,Lu (by omega),LV (by simp;omega)];simp[hn]
 ·rw[Lt hj]
  exact sv
theorem Bl {x:fQ} (hq:acc[m]?=H q)(hn:acc.length=m+1)(h:¬ (q.End=x.Offset/\q.Frame=x.Item.fI/\q.fK=x.Item.fK)):mO acc x=acc++[lT x]:=by
 have hl:acc.getLast?=H q:=by rw[Oj,hn];exact hq
 unfold mO;simp only[hl];rw[Lt h];rfl
theorem yS {α β:Type} {f:β->α->β} {xs:Q α} {x:α} {b:β} (h:xs[k]?=H x):(xs.drop k).foldl f b=(xs.drop (k+1)).foldl f (f b x):=by
 obtain⟨h1,rfl⟩:=Lh.1 h;rw[LI h1];rfl
theorem zn {x:fQ} (h:xs[k]?=H x):mn (xs.drop k)=(gW x.Offset 0 1000000 && mn (xs.drop (k+1))):=by
 obtain⟨h1,rfl⟩:=Lh.1 h;rw[LI h1];rfl
theorem uV {x:fQ} (h:mn xs=M)(hx:xs[k]?=H x):0<=x.Offset/\x.Offset<=1000000:=by
 unfold mn at h;rw[NL] at h;exact zX.1 (h x (LP hx))
theorem qU (c:Int):0<=zA c/\zA c<=5:=by
 unfold zA;split
 ·have:=tH c
  omega
 ·omega
theorem zmg (hx:(oH.sl 133).R w w.heap.size [J A xs.length c] xs)(hl:xs.length<=1000000) :
  LR prog 100 #[J A xs.length c] w fun e w'=>e=.returned (X (mn xs))/\fF w w':=by
 go_enter func100,ntmps100;go_wp2_with(fail);go_loopw [3] (fun j wr=>∃ k:Nat,j=F I k/\k<=xs.length/\Hid (fF w wr)/\Hid (mn (xs.drop k)=mn xs)) (fun j _=>xs.length-(Ml j).toNat)
 case atStart=>exact⟨0,rfl,Lv _,fE gF,fE rfl⟩
 case round=>
  obtain⟨k,rfl,hk,hG,hN⟩:=hrel;by_cases hlt:k<xs.length
  ·obtain⟨g,a6,x,a2,a3,rfl,a4,a0,x0,_⟩:=l2 hx hlt
   have a1:(k:Int)<(xs.length:Int):=by omega
   have a5:Ll I ((k:Int)+1)=(k:Int)+1:=iw;have x0:=za hG.out x0;obtain⟨b,hb⟩:∃ b,gW x.Offset 0 1000000=b:=⟨_,rfl⟩
   have HA:=fE (zn a0);have HB:=fE hb;clear a0 hb;cases b with
   | true=>
    go_wp2_with(first | (go_at_call 33;(with_reducible refine(lj _ _ _ _).mono ?_);rw[HB.out];rintro e w2 ⟨rfl,rfl⟩));go_roundw;exact⟨k+1,by go_num,by omega,hG,fE (by rw[<-hN.out,HA.out,HB.out];rfl)⟩;exact gL
   | false=>
    go_wp2_with(first | (go_at_call 33;(with_reducible refine(lj _ _ _ _).mono ?_);rw[HB.out];rintro e w2 ⟨rfl,rfl⟩));go_ret;exact⟨zy (by rw[<-hN.out,HA.out,HB.out];rfl),hG.out⟩
  ·obtain rfl:k=xs.length:=by omega
   have a1:¬ ((xs.length:Int)<(xs.length:Int)):=by omega
   have HE:Hid (mn xs=M):=fE (by rw[<-hN.out,LY];rfl);go_wp2_with(fail);go_ret;exact⟨zy HE.out.symm,hG.out⟩
theorem oK {g:Prop} (f:g:=by
  go_roundw
  exact⟨k+1,m+1+1,A8,c8,S8,acc++[lT x],rfl,by go_num,by omega,by omega,fE (by rw[Lj,hn.out];rfl),fE (hon.fO ((hG.out.trans hgwx).trans gF) hS.out),fE hH8,fE (fun b hb=>(hS8 b hb).elim (hS.out b) (fun h=>LO (((hG.out.trans hgwx).trans gF)).size h)),fE (by rw[<-hA.out,HF.out,HP.out])⟩
  exact gL):g:=f
theorem rN {g:Prop} (f:g:=by
  go_quiet (fail)
  go_wp2_with(fail)
  have hj:=HPUT.out (x.Offset+zA x.Item.Op.Code) hoI
  go_roundw
  exact⟨k+1,m+1,H ⟨gr,0,V⟩,c5,S,acc.set m { q with End:=x.Offset+zA x.Item.Op.Code },rfl,by go_num,by omega,by omega,fE (by rw[Ma];exact hn.out),fE ((hj.2.fO (hG.out.trans hgwx) hS.out).trans gF),fE (hj.1.fO gF),hS,fE (by rw[<-hA.out,HF.out,HJ.out])⟩
  exact gL):g:=f
theorem rQ {g:Prop} (f:g:=by
  go_roundw
  exact⟨k+1,0+1,A8,c8,S8,acc++[lT x],rfl,by go_num,by omega,by omega,fE (by rw[Lj,hn.out];rfl),fE (hon.fO ((hG.out.trans hgwx).trans gF) hS.out),fE hH8,fE (fun b hb=>(hS8 b hb).elim (hS.out b) (fun h=>LO (((hG.out.trans hgwx).trans gF)).size h)),fE (by rw[<-hA.out,HF.out,HP.out])⟩
  exact gL):g:=f
theorem zqg (hx:(oH.sl 133).R w w.heap.size [J A xs.length c] xs)(hl:xs.length<=1000000) :
  LR prog 37 #[J A xs.length c] w (DD (kU xs) w):=by
 obtain⟨nb,ac⟩:∃ b,mn xs=b:=⟨_,rfl⟩
 have a0:=fE ac;clear ac;cases nb with
 | false=>
  have HE:Hid (kU xs = []):=fE (by unfold kU;rw[a0.out];rfl);go_enter func37,ntmps37;go_wp2_with(first | (go_at_call 100;(with_reducible refine(zmg (Ty.up _ hx gF) hl).mono ?_);rw[a0.out];rintro e w1 ⟨rfl,a2⟩));exact Ln (v:=J (H ⟨w.heap.size,0,V⟩) 0 0) (by simp[Ly,results37,go_sem]) rfl (by rw[HE.out];exact⟨_,0,[w.heap.size],rfl,Has.emp jJ (zj (Lp w (C #[] 137)) (fF.trans (b:=_) gF a2)),fun b hb=>by simp only[Lr] at hb;omega,fF.trans (b:=_) gF a2⟩)
 | true=>
 have HE:Hid (kU xs=xs.foldl mO []):=fE (by unfold kU;rw[a0.out];rfl);go_enter func37,ntmps37;go_wp2_with(first | (go_at_call 100;(with_reducible refine(zmg (Ty.up _ hx gF) hl).mono ?_);rw[a0.out];rintro e w1 ⟨rfl,a2⟩));go_loopw [3,4] (fun z j wr=>∃(k n:Nat) (A5:K Mh) (c5:Nat) (S:Q Nat) (acc:Q gZ),z=J A5 n c5/\j=F I k/\k<=xs.length/\n<=k/\Hid (acc.length=n)/\Hid (fF w wr)/\Hid (Has (jJ.sl 137) wr [J A5 n c5] acc S)/\Hid (∀ b∈S,w.heap.size<=b)/\Hid ((xs.drop k).foldl mO acc=kU xs)) (fun _ j _=>xs.length-(Ml j).toNat)
 case atStart=>exact⟨0,0,_,0,[w.heap.size],[],rfl,rfl,Lv _,Lv _,fE rfl,fE (fF.trans (b:=_) gF a2),fE (Has.emp jJ (zj (Lp w (C #[] 137)) (fF.trans (b:=_) gF a2))),fE (fun b hb=>by simp only[Lr] at hb;omega),fE HE.out.symm⟩
 case round=>
  obtain⟨k,n,A5,c5,S,acc,rfl,rfl,hk,ar,hn,hG,hH,hS,hA⟩:=hrel;by_cases hlt:k<xs.length
  ·obtain⟨g,az,x,a6,a7,rfl,ao,aa,x0,x1,x2,x3,x4,x5,x6,x7,b0,b1,b2,b3,h5,b6⟩:=l2 hx hlt
   have ak:(k:Int)<(xs.length:Int):=by omega
   have aw:Ll I ((k:Int)+1)=(k:Int)+1:=iw;have au:=uV a0.out aa;have av:=qU x.Item.Op.Code;have hoI:fV (x.Offset+zA x.Item.Op.Code):=⟨by omega,by omega⟩
   have ay:Ll I (x.Offset+zA x.Item.Op.Code)=x.Offset+zA x.Item.Op.Code:=iw;have HF:=fE (yS (f:=mO) (b:=acc) aa);have x0:=za hG.out x0;have x1:=za hG.out x1;have x2:=za hG.out x2;have x3:=za hG.out x3;have x4:=za hG.out x4;have x5:=za hG.out x5;have x6:=za hG.out x6;have x7:=za hG.out x7;clear aa;go_upto_region 8 with(fail);have eb:(wr.alloc (C #[F I x.Offset,F I x.Item.Op.Code,F I x.Item.Op.Arg,F I x.Item.fN,X x.Item.Start,J a6 x.Item.fH.length a7,F I x.Item.fK,X x.Item.fI] 133)).heap[wr.heap.size]?=H (C #[F I x.Offset,F I x.Item.Op.Code,F I x.Item.Op.Arg,F I x.Item.fN,X x.Item.Start,J a6 x.Item.fH.length a7,F I x.Item.fK,X x.Item.fI] 133 (0,0)):=Lp _ _;have ab:fF wr (wr.alloc (C #[F I x.Offset,F I x.Item.Op.Code,F I x.Item.Op.Arg,F I x.Item.fN,X x.Item.Start,J a6 x.Item.fH.length a7,F I x.Item.fK,X x.Item.fI] 133)):=(fF.refl _).alloc _;obtain⟨g5,a8⟩:∃ g,wr.heap.size=g:=⟨_,rfl⟩
   rw[a8] at eb |-;have ad:=fE a8;clear a8;generalize (wr.alloc _)=Y at eb ab |-;obtain⟨o0,o1,o2,o3,o4,o5,o6,o7,of,ol⟩:=tK eb;go_cut [6] from 23 to 39 (fun v wx=>∃ g6,v=.pointer (H ⟨g6,0,V⟩)/\fF Y wx/\wx.heap[g6]?=H (C #[F I x.Offset,F I (x.Offset+zA x.Item.Op.Code),X x.Item.fI,F I x.Item.fK] 137 (0,0))/\Y.heap.size<=g6)
   case first=>
    go_region_held3 (fun w'=>Lg w' ⟨g5,0,V⟩=H (F I x.Offset)/\Lg w' ⟨g5,1,V⟩=H (F I x.Item.Op.Code)/\Lg w' ⟨g5,6,V⟩=H (F I x.Item.fK)/\Lg w' ⟨g5,7,V⟩=H (X x.Item.fI)) ((repeat' apply Ls) <;> ((repeat (first | with_reducible assumption | with_reducible refine zC ?_ _ _ | with_reducible refine zo ?_ _ | with_reducible refine zb ?_ | with_reducible refine oL ?_ _));done)) (first | (go_at_call 98;(with_reducible refine(zkf _ _).mono ?_);rintro e w' ⟨rfl,rfl⟩))
    all_goals go_wp2_with(fail)
    all_goals go_meet
    all_goals exact⟨_,rfl,gF,zj (Lp Y _) gF,Lz _⟩
   case rest=>
    obtain⟨g6,rfl,af,ae,al⟩:=hcut;have hgwx:fF wr wc:=ab.trans af;obtain⟨r0,r1,r2,r3,rf,rl⟩:=jq ae;have a1:=fE (hH.out.fO hgwx);clear x0 x1 x2 x3 x4 x5 x6 x7 o0 o1 o2 o3 o4 o5 o6 o7 of eb;cases n with
    | zero=>
     have hz:¬ ((0:Int) > 0):=by omega
     have HP:Hid (mO acc x=acc++[lT x]):=fE (by rw[M3.1 hn.out];rfl);go_upto_region 10 with(fail);go_quiet (fail);go_wp2_with(first | (refine zr (L:=0+1) rfl (.tmp 84) (.tmp 86) re qP (a1.out.fO gF) (W1:=w) (B:=0) (ec:=[F I x.Offset,F I (x.Offset+zA x.Item.Op.Code),X x.Item.fI,F I x.Item.fK]) (y:=lT x) (qV (x:=lT x) b0 hoI b6) rfl rfl rfl (by intro j u hu;simpa[go_sem] using hu) rfl (by omega) (by omega) ?_;intro A8 c8 W8 S8 hon hH8 hS8));exact rQ
    | succ m=>
     obtain⟨q,hq⟩:∃ q,acc[m]?=H q:=⟨_,Lo (by have:=hn.out;omega)⟩
     obtain⟨gr,ag,a9,aj,ai,q0,q1,q2,q3,a3⟩:=DR a1.out hq;subst ag;have HPUT:=fE a3;have aq:(0:Int)<((m:Int)+1):=by omega
     have am:(((m+1:Nat):Int)) > 0:=by omega
     have ax:Ll I ((m:Int)+1-1)=(m:Int):=by rw[M7];exact iw
     have an:Ll I (m:Int)=(m:Int):=iw;have ap:(m:Int)<(m:Int)+1:=by omega
     have ah:gr≠g6:=fun e=>by have h:=hH.out.lt gr a9;have h2:=ad.out;rw[<-e] at al;omega
     clear a3;have a5:=fun h=>Bl (x:=x) hq hn.out h;have a4:=fun h=>Bj (x:=x) hq hn.out h;have KP:=fE a5;have KJ:=fE a4;clear a5 a4 hq;by_cases e1:q.End=x.Offset
     ·by_cases e2:q.Frame=x.Item.fI
      ·by_cases e3:q.fK=x.Item.fK
       ·have HJ:=fE (KJ.out ⟨e1,e2,e3⟩)
        have f1:(q.End == x.Offset)=M:=LM.2 e1;have f2:(q.Frame == x.Item.fI)=M:=LM.2 e2;have f3:(q.fK == x.Item.fK)=M:=LM.2 e3;clear e1 e2 e3;go_upto_region 10 with(fail);exact rN
       ·have HP:=fE (KP.out (fun h=>e3 h.2.2))
        have f1:(q.End == x.Offset)=M:=LM.2 e1;have f2:(q.Frame == x.Item.fI)=M:=LM.2 e2;have f3:(q.fK == x.Item.fK)=U:=Lk.2 e3;clear e1 e2 e3;go_upto_region 10 with(fail);go_quiet (fail);go_wp2_with(first | (refine zr (L:=m+1+1) rfl (.tmp 84) (.tmp 86) re qP (a1.out.fO gF) (W1:=w) (B:=0) (ec:=[F I x.Offset,F I (x.Offset+zA x.Item.Op.Code),X x.Item.fI,F I x.Item.fK]) (y:=lT x) (qV (x:=lT x) b0 hoI b6) rfl rfl rfl (by intro j u hu;simpa[go_sem] using hu) rfl (by omega) (by omega) ?_;intro A8 c8 W8 S8 hon hH8 hS8));exact oK
      ·have HP:=fE (KP.out (fun h=>e2 h.2.1))
       have f1:(q.End == x.Offset)=M:=LM.2 e1;have f2:(q.Frame == x.Item.fI)=U:=Lk.2 e2;clear e1 e2;go_upto_region 10 with(fail);go_quiet (fail);go_wp2_with(first | (refine zr (L:=m+1+1) rfl (.tmp 84) (.tmp 86) re qP (a1.out.fO gF) (W1:=w) (B:=0) (ec:=[F I x.Offset,F I (x.Offset+zA x.Item.Op.Code),X x.Item.fI,F I x.Item.fK]) (y:=lT x) (qV (x:=lT x) b0 hoI b6) rfl rfl rfl (by intro j u hu;simpa[go_sem] using hu) rfl (by omega) (by omega) ?_;intro A8 c8 W8 S8 hon hH8 hS8));exact oK
     ·have HP:=fE (KP.out (fun h=>e1 h.1))
      have f1:(q.End == x.Offset)=U:=Lk.2 e1;clear e1;go_upto_region 10 with(fail);go_quiet (fail);go_wp2_with(first | (refine zr (L:=m+1+1) rfl (.tmp 84) (.tmp 86) re qP (a1.out.fO gF) (W1:=w) (B:=0) (ec:=[F I x.Offset,F I (x.Offset+zA x.Item.Op.Code),X x.Item.fI,F I x.Item.fK]) (y:=lT x) (qV (x:=lT x) b0 hoI b6) rfl rfl rfl (by intro j u hu;simpa[go_sem] using hu) rfl (by omega) (by omega) ?_;intro A8 c8 W8 S8 hon hH8 hS8));exact oK
  ·obtain rfl:k=xs.length:=by omega
   have ak:¬ ((xs.length:Int)<(xs.length:Int)):=by omega
   have HR:Hid (acc=kU xs):=fE (by have h:=hA.out;rw[LY] at h;exact h);go_wp2_with(fail);exact Ln (v:=J A5 n c5) (by simp[Ly,results37,go_sem]) rfl (by rw[<-HR.out];exact⟨A5,c5,S,by rw[hn.out],by rw[hn.out];exact hH.out,hS.out,hG.out⟩)
theorem zqf (hx:(oH.sl 133).R w w.heap.size [J A xs.length c] xs)(hl:xs.length<=1000000) :
  LR prog 47 #[J A xs.length c] w (DD (kU xs) w):=by
 go_enter func47,ntmps47;go_wp2_with(fail);go_loopw [12] (fun j wr=>∃ k:Nat,j=F I k/\k<=xs.length/\Hid (fF w wr)/\Hid (mn (xs.drop k)=mn xs)) (fun j _=>xs.length-(Ml j).toNat)
 case atStart=>exact⟨0,rfl,Lv _,fE gF,fE rfl⟩
 case round=>
 obtain⟨k,rfl,hk,a0,hN⟩:=hrel;by_cases hlt:k<xs.length
 ·obtain⟨g,ar,x,a6,a7,rfl,ah,a1,x0,x1,x2,x3,x4,x5,x6,x7,_⟩:=l2 hx hlt
  have ad:(k:Int)<(xs.length:Int):=by omega
  have ap:Ll I ((k:Int)+1)=(k:Int)+1:=iw;have x0:=za a0.out x0;have x1:=za a0.out x1;have x2:=za a0.out x2;have x3:=za a0.out x3;have x4:=za a0.out x4;have x5:=za a0.out x5;have x6:=za a0.out x6;have x7:=za a0.out x7;obtain⟨b,hb⟩:∃ b,gW x.Offset 0 1000000=b:=⟨_,rfl⟩
  have HA:=fE (zn a1);have HB:=fE hb;clear a1 hb;cases b with
  | true=>
   go_wp2_with(first | (go_at_call 43;(with_reducible refine(jr _ _ _ _).mono ?_);rw[HB.out];rintro e w2 ⟨rfl,rfl⟩));go_roundw;exact⟨k+1,by go_num,by omega,fE (a0.out.trans gF),fE (by rw[<-hN.out,HA.out,HB.out];rfl)⟩;exact gL
  | false=>
   have HE:Hid (kU xs = []):=fE (by unfold kU;rw[<-hN.out,HA.out,HB.out];rfl);go_wp2_with(first | (go_at_call 43;(with_reducible refine(jr _ _ _ _).mono ?_);rw[HB.out];rintro e w2 ⟨rfl,rfl⟩));exact Ln (v:=J V 0 0) (by simp[Ly,results47,go_sem]) rfl (by rw[HE.out];exact⟨V,0,[],rfl,Has.nil jJ _ _,⟨fun b hb=>absurd hb MX,a0.out.trans gF⟩⟩)
 obtain rfl:k=xs.length:=by omega
 have aa:¬ ((xs.length:Int)<(xs.length:Int)):=by omega
 have ab:Hid (mn xs=M):=fE (by rw[<-hN.out,LY];rfl);have HE:Hid (kU xs=xs.foldl mO []):=fE (by unfold kU;rw[ab.out];rfl);have am:=a0.out.size;go_wp2_with(fail);clear aa;go_loopw [5,24] (fun z j wr=>∃(k n:Nat) (A5:K Mh) (c5:Nat) (S:Q Nat) (acc:Q gZ),z=J A5 n c5/\j=F I k/\k<=xs.length/\n<=k/\Hid (acc.length=n)/\Hid (fF w wr)/\Hid (Has (jJ.sl 137) wr [J A5 n c5] acc S)/\Hid (∀ b∈S,w.heap.size<=b)/\Hid ((xs.drop k).foldl mO acc=kU xs)) (fun _ j _=>xs.length-(Ml j).toNat)
 case atStart=>exact⟨0,0,_,0,[wr.heap.size],[],rfl,rfl,Lv _,Lv _,fE rfl,fE (a0.out.trans gF),fE (Has.emp jJ (zj (Lp wr (C #[] 137)) gF)),fE (fun b hb=>by simp only[Lr] at hb;omega),fE HE.out.symm⟩
 case round=>
  obtain⟨k,n,A5,c5,S,acc,rfl,rfl,hk,aw,hn,hG,hH,hS,hA⟩:=hrel;by_cases hlt:k<xs.length
  ·obtain⟨g,ar,x,a6,a7,rfl,ah,a1,x0,x1,x2,x3,x4,x5,x6,x7,b0,b1,b2,b3,h5,b6⟩:=l2 hx hlt
   have ad:(k:Int)<(xs.length:Int):=by omega
   have ap:Ll I ((k:Int)+1)=(k:Int)+1:=iw;have ax:=uV ab.out a1;have ay:=qU x.Item.Op.Code;have hoI:fV (x.Offset+zA x.Item.Op.Code):=⟨by omega,by omega⟩
   have aA:Ll I (x.Offset+zA x.Item.Op.Code)=x.Offset+zA x.Item.Op.Code:=iw;have HF:=fE (yS (f:=mO) (b:=acc) a1);have x0:=za hG.out x0;have x1:=za hG.out x1;have x2:=za hG.out x2;have x3:=za hG.out x3;have x4:=za hG.out x4;have x5:=za hG.out x5;have x6:=za hG.out x6;have x7:=za hG.out x7;clear a1;go_upto_region 11 with(fail);have eb:(wr.alloc (C #[F I x.Offset,F I x.Item.Op.Code,F I x.Item.Op.Arg,F I x.Item.fN,X x.Item.Start,J a6 x.Item.fH.length a7,F I x.Item.fK,X x.Item.fI] 133)).heap[wr.heap.size]?=H (C #[F I x.Offset,F I x.Item.Op.Code,F I x.Item.Op.Arg,F I x.Item.fN,X x.Item.Start,J a6 x.Item.fH.length a7,F I x.Item.fK,X x.Item.fI] 133 (0,0)):=Lp _ _;have ac:fF wr (wr.alloc (C #[F I x.Offset,F I x.Item.Op.Code,F I x.Item.Op.Arg,F I x.Item.fN,X x.Item.Start,J a6 x.Item.fH.length a7,F I x.Item.fK,X x.Item.fI] 133)):=(fF.refl _).alloc _;obtain⟨g5,a8⟩:∃ g,wr.heap.size=g:=⟨_,rfl⟩
   rw[a8] at eb |-;have ae:=fE a8;clear a8;generalize (wr.alloc _)=Y at eb ac |-;obtain⟨o0,o1,o2,o3,o4,o5,o6,o7,of,ol⟩:=tK eb;go_cut [8] from 28 to 44 (fun v wx=>∃ g6,v=.pointer (H ⟨g6,0,V⟩)/\fF Y wx/\wx.heap[g6]?=H (C #[F I x.Offset,F I (x.Offset+zA x.Item.Op.Code),X x.Item.fI,F I x.Item.fK] 137 (0,0))/\Y.heap.size<=g6)
   case first=>
    go_region_held3 (fun w'=>Lg w' ⟨g5,0,V⟩=H (F I x.Offset)/\Lg w' ⟨g5,1,V⟩=H (F I x.Item.Op.Code)/\Lg w' ⟨g5,6,V⟩=H (F I x.Item.fK)/\Lg w' ⟨g5,7,V⟩=H (X x.Item.fI)) ((repeat' apply Ls) <;> ((repeat (first | with_reducible assumption | with_reducible refine zC ?_ _ _ | with_reducible refine zo ?_ _ | with_reducible refine zb ?_ | with_reducible refine oL ?_ _));done)) (first | (go_at_call 114;(with_reducible refine(zcV _ _).mono ?_);rintro e w' ⟨rfl,rfl⟩))
    all_goals go_wp2_with(fail)
    all_goals go_meet
    all_goals exact⟨_,rfl,gF,zj (Lp Y _) gF,Lz _⟩
   case rest=>
    obtain⟨g6,rfl,ag,af,an⟩:=hcut;have hgwx:fF wr wc:=ac.trans ag;obtain⟨r0,r1,r2,r3,rf,rl⟩:=jq af;have a2:=fE (hH.out.fO hgwx);clear x0 x1 x2 x3 x4 x5 x6 x7 o0 o1 o2 o3 o4 o5 o6 o7 of eb;cases n with
    | zero=>
     have hz:¬ ((0:Int) > 0):=by omega
     have HP:Hid (mO acc x=acc++[lT x]):=fE (by rw[M3.1 hn.out];rfl);go_upto_region 13 with(fail);go_quiet (fail);go_wp2_with(first | (refine zr (L:=0+1) rfl (.tmp 89) (.tmp 91) re qP (a2.out.fO gF) (W1:=w) (B:=0) (ec:=[F I x.Offset,F I (x.Offset+zA x.Item.Op.Code),X x.Item.fI,F I x.Item.fK]) (y:=lT x) (qV (x:=lT x) b0 hoI b6) rfl rfl rfl (by intro j u hu;simpa[go_sem] using hu) rfl (by omega) (by omega) ?_;intro A8 c8 W8 S8 hon hH8 hS8));exact rQ
    | succ m=>
     obtain⟨q,hq⟩:∃ q,acc[m]?=H q:=⟨_,Lo (by have:=hn.out;omega)⟩
     obtain⟨gr,ai,a9,al,ak,q0,q1,q2,q3,a3⟩:=DR a2.out hq;subst ai;have HPUT:=fE a3;have av:(0:Int)<((m:Int)+1):=by omega
     have ao:(((m+1:Nat):Int)) > 0:=by omega
     have az:Ll I ((m:Int)+1-1)=(m:Int):=by rw[M7];exact iw
     have aq:Ll I (m:Int)=(m:Int):=iw;have au:(m:Int)<(m:Int)+1:=by omega
     have aj:gr≠g6:=fun e=>by have h:=hH.out.lt gr a9;have h2:=ae.out;rw[<-e] at an;omega
     clear a3;have a5:=fun h=>Bl (x:=x) hq hn.out h;have a4:=fun h=>Bj (x:=x) hq hn.out h;have KP:=fE a5;have KJ:=fE a4;clear a5 a4 hq;by_cases e1:q.End=x.Offset
     ·by_cases e2:q.Frame=x.Item.fI
      ·by_cases e3:q.fK=x.Item.fK
       ·have HJ:=fE (KJ.out ⟨e1,e2,e3⟩)
        have f1:(q.End == x.Offset)=M:=LM.2 e1;have f2:(q.Frame == x.Item.fI)=M:=LM.2 e2;have f3:(q.fK == x.Item.fK)=M:=LM.2 e3;clear e1 e2 e3;go_upto_region 13 with(fail);exact rN
       ·have HP:=fE (KP.out (fun h=>e3 h.2.2))
        have f1:(q.End == x.Offset)=M:=LM.2 e1;have f2:(q.Frame == x.Item.fI)=M:=LM.2 e2;have f3:(q.fK == x.Item.fK)=U:=Lk.2 e3;clear e1 e2 e3;go_upto_region 13 with(fail);go_quiet (fail);go_wp2_with(first | (refine zr (L:=m+1+1) rfl (.tmp 89) (.tmp 91) re qP (a2.out.fO gF) (W1:=w) (B:=0) (ec:=[F I x.Offset,F I (x.Offset+zA x.Item.Op.Code),X x.Item.fI,F I x.Item.fK]) (y:=lT x) (qV (x:=lT x) b0 hoI b6) rfl rfl rfl (by intro j u hu;simpa[go_sem] using hu) rfl (by omega) (by omega) ?_;intro A8 c8 W8 S8 hon hH8 hS8));exact oK
      ·have HP:=fE (KP.out (fun h=>e2 h.2.1))
       have f1:(q.End == x.Offset)=M:=LM.2 e1;have f2:(q.Frame == x.Item.fI)=U:=Lk.2 e2;clear e1 e2;go_upto_region 13 with(fail);go_quiet (fail);go_wp2_with(first | (refine zr (L:=m+1+1) rfl (.tmp 89) (.tmp 91) re qP (a2.out.fO gF) (W1:=w) (B:=0) (ec:=[F I x.Offset,F I (x.Offset+zA x.Item.Op.Code),X x.Item.fI,F I x.Item.fK]) (y:=lT x) (qV (x:=lT x) b0 hoI b6) rfl rfl rfl (by intro j u hu;simpa[go_sem] using hu) rfl (by omega) (by omega) ?_;intro A8 c8 W8 S8 hon hH8 hS8));exact oK
     ·have HP:=fE (KP.out (fun h=>e1 h.1))
      have f1:(q.End == x.Offset)=U:=Lk.2 e1;clear e1;go_upto_region 13 with(fail);go_quiet (fail);go_wp2_with(first | (refine zr (L:=m+1+1) rfl (.tmp 89) (.tmp 91) re qP (a2.out.fO gF) (W1:=w) (B:=0) (ec:=[F I x.Offset,F I (x.Offset+zA x.Item.Op.Code),X x.Item.fI,F I x.Item.fK]) (y:=lT x) (qV (x:=lT x) b0 hoI b6) rfl rfl rfl (by intro j u hu;simpa[go_sem] using hu) rfl (by omega) (by omega) ?_;intro A8 c8 W8 S8 hon hH8 hS8));exact oK
  ·obtain rfl:k=xs.length:=by omega
   have ad:¬ ((xs.length:Int)<(xs.length:Int)):=by omega
   have HR:Hid (acc=kU xs):=fE (by have h:=hA.out;rw[LY] at h;exact h);go_wp2_with(fail);exact Ln (v:=J A5 n c5) (by simp[Ly,results47,go_sem]) rfl (by rw[<-HR.out];exact⟨A5,c5,S,by rw[hn.out],by rw[hn.out];exact hH.out,hS.out,hG.out⟩)
end Go.Proofs.YtiihkapmggfjkaaGreat
