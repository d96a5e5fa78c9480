/-
  PART.
-/
import Derived.Test.YthgbglbaemelhaaGreatM26LawSlices
set_option linter.unusedVariables false
set_option linter.unusedSimpArgs false
set_option maxRecDepth 100000
set_option maxHeartbeats 8000000
namespace Go.Proofs.YthgbglbaemelhaaGreat
open Value renaming slice->G,int->J,bool->H
open IntKind renaming i64->C,wrap->QP
open Option renaming some->Z
open Bool renaming false->I,true->M
open Go renaming World->U,results->Rd,Calls->Rh,Addr->Ri
open _root_.Int renaming toNat_natCast->Ra
open RowKit renaming intOf->Ry
open _root_.Nat renaming add_zero->RK
open Tryz
open Go.RowKit
variable {k n:Nat}{p:Q fv}{w:U}{x:fv}
theorem F6:sU.toList = [109,97,105,110]:=by unfold sU;simp[go_sem]
theorem MP (h:60<p.length):zv p=I:=by unfold zv;rw[QT (by omega)];rfl
theorem zy (h:pV p=I):zv p=I:=by unfold zv;rw[h];simp
theorem MO (h:6<(zp p).length):zv p=I:=by unfold zv;rw[QT (show ¬ ((zp p).length<=6) by omega)];simp
theorem FB (h:oM p p 0=I):zv p=I:=by unfold zv;rw[h];simp
theorem MQ (h1:p.length<=60)(h2:pV p=M)(h3:(zp p).length<=6)(h4:oM p p 0=M):zv p=oJ p p.length 0:=by unfold zv;rw[QY h1,h2,QY h3,h4];simp
theorem OB (h:p[0]?=Z x)(h0:x.Kind≠0):pV p=I:=by unfold pV;rw[h];simp only;rw[QT h0];rfl
theorem OC (h:p[0]?=Z x)(h0:x.Name≠sU):pV p=I:=by unfold pV;rw[h];simp only;rw[QT h0];simp
theorem OD (h:p[0]?=Z x)(h0:x.fM.length≠0):pV p=I:=by unfold pV;rw[h];simp only;rw[QT h0];simp
theorem OE (h:p[0]?=Z x)(h0:x.Kind=0)(h1:x.Name=sU)(h2:x.fM.length=0):pV p=M:=by unfold pV;rw[h];simp only;rw[QY h0,QY h1,QY h2];rfl
theorem Nj (h:p[k]?=Z x)(hn:p.length<=n+k):oJ p n k=(decide (x.Kind=0) && (decide (0<=iN p k) && (my p k (iN p k).toNat && oJ p (n-1) ((iN p k).toNat+1)))):=by
 have hl:=(QM.1 h).1
 match n,hn with
 | 0,hn=>omega
 | n+1,hn=>
  rw[oJ,h];rfl
theorem LX (h:p.length<=k):oJ p n k=M:=by
 match n with
 | 0=>rfl
 | n+1=>rw[oJ,Tb h]
theorem nY {g:Prop} (f:g:=by
  go_enter func102,ntmps102
  go_wp2_with(fail)
  all_goals exact QU (v:=H I) (by simp[Rd,results102,go_sem]) rfl ⟨by rw[HF.out],gF⟩):g:=f
theorem ug {g:Prop} (f:g:=by
  go_wp2_with(first | (go_at_call 160;(with_reducible refine(zbi (Ty.up _ hx (hG.out.trans gF)) hl).mono ?_);rw[HE.out];rintro e2 v2 ⟨rfl,hg2⟩;have u0:=za (hG.out.trans (ft.trans (b:=_) gF hg2)) x0))
  all_goals exact QU (v:=H I) (by simp[Rd,results102,go_sem]) rfl ⟨by rw[HF.out],hG.out.trans (ft.trans (b:=_) gF (hg2.trans gF))⟩):g:=f
theorem zaD {xs:Q fv} {A:X Ri} {c:Nat} (hx:(zJ.sl 99).R w w.heap.size [G A xs.length c] xs)(hl:xs.length<=1099511627776)(hs:∀ x∈xs,x.fM.length<=1099511627776/\x.Expr.length<=1099511627776) :
  Rh prog 102 #[G A xs.length c] w fun r w'=>r=.returned (H (zv xs))/\ft w w':=by
 by_cases h00:xs.length=0
 ·have HF:Hid (zv xs=I):=fh (zy (by unfold pV;rw[Tb (by omega)]))
  have aq:((xs.length:Int) == 0)=M:=Rt.2 (by omega);clear h00;exact nY
 have aq:((xs.length:Int) == 0)=I:=QV.2 (by omega);by_cases h60:60<xs.length
 ·have HF:Hid (zv xs=I):=fh (MP h60)
  have ac:(xs.length:Int) > 60:=by omega
  clear h00 h60;exact nY
 have ac:¬ ((xs.length:Int) > 60):=by omega
 have ar:¬ (60<(xs.length:Int)):=by omega
 obtain⟨g,aK,y,aA,aC,aB,aD,rfl,aG,hy,y0,y1,y2,y3,_,_,_,_⟩:=lK hx (k:=0) (by omega);simp only[Ux,RK] at y0 y1 y2 y3;have ay:(0:Int)<(xs.length:Int):=by omega
 have ae:=zbB hx hl;obtain⟨FL,ad⟩:∃ FL,zp xs=FL:=⟨_,rfl⟩
 rw[ad] at ae;have aj:=fh ad;clear ad;by_cases k0:y.Kind=0
 rotate_left
 ·have HF:Hid (zv xs=I):=fh (zy (OB hy k0))
  have q0:(y.Kind != 0)=M:=by rw[n9,QT k0];rfl
  clear k0 h00 h60 hy;exact nY
 have q0:(y.Kind != 0)=I:=by rw[n9,QY k0];rfl
 by_cases k1:y.Name=sU
 rotate_left
 ·have HF:Hid (zv xs=I):=fh (zy (OC hy k1))
  have q1:(y.Name.toList == [109,97,105,110])=I:=by rw[<-F6,lp];exact QT k1
  clear k0 k1 h00 h60 hy;exact nY
 have q1:(y.Name.toList == [109,97,105,110])=M:=by rw[<-F6,lp];exact QY k1
 by_cases k2:y.fM.length=0
 rotate_left
 ·have HF:Hid (zv xs=I):=fh (zy (OD hy k2))
  have q2:((y.fM.length:Int) != 0)=M:=by rw[n9,QT (by omega)];rfl
  clear k0 k1 k2 h00 h60 hy;exact nY
 have q2:((y.fM.length:Int) != 0)=I:=by rw[n9,QY (by omega)];rfl
 have HH:=fh (OE hy k0 k1 k2);clear k0 k1 k2 hy;by_cases k6:6<FL.length
 ·have HF:Hid (zv xs=I):=fh (MO (by rw[aj.out];exact k6))
  have az:(FL.length:Int) > 6:=by omega
  clear k6 h00 h60;go_enter func102,ntmps102;go_wp2_with(first | (go_at_call 106;(with_reducible refine ae.mono ?_);rintro e1 v1 ⟨AF,cF,SF,rfl,av,aw,af⟩))
  all_goals exact QU (v:=H I) (by simp[Rd,results102,go_sem]) rfl ⟨by rw[HF.out],af.trans gF⟩
 have az:¬ ((FL.length:Int) > 6):=by omega
 have aJ:¬ (6<(FL.length:Int)):=by omega
 have an:Hid ((zp xs).length<=6):=fh (by rw[aj.out];omega);have ab:Hid (xs.length<=60):=fh (by omega);clear k6 h60;go_enter func102,ntmps102;go_wp2_with(first | (go_at_call 106;(with_reducible refine ae.mono ?_);rintro e1 v1 ⟨AF,cF,SF,rfl,av,aw,af⟩));go_loopw [3] (fun j wr=>∃(i:Nat),j=J C i/\i<=xs.length/\Hid (ft w wr)/\Hid (oM xs (xs.drop i) i=oM xs xs 0)) (fun j _=>xs.length-(Ry j).toNat)
 case atStart=>exact⟨0,rfl,QX _,fh (af.trans gF),fh rfl⟩
 case round=>
  obtain⟨i,rfl,hi,hG,hE⟩:=hrel;by_cases hlt:i<xs.length
  ·obtain⟨g2,ah,x,al,ao,am,ap,a3,_,a5,x0,x1,x2,x3,b0,b1,h2,h3⟩:=lK hx hlt
   injection a3 with a3
   injection a3 with e1 e2
   subst e1 e2;have ag:(i:Int)<(xs.length:Int):=by omega
   have v0:=za hG.out x0;have aL:=za hG.out x1;have aM:=za hG.out x2;have v3:=za hG.out x3;obtain⟨a8,a9⟩:=hs x (Q9 a5);have HX:=fh a5;clear a5;rcases RB (oh x) with a1 | a1
   rotate_left
   ·have a6:=fh a1
    have HF:Hid (zv xs=I):=fh (FB (by rw[<-hE.out,yU HX.out];unfold rW;rw[a1];rfl));clear a1;go_wp2_with(first | (go_at_call 158;(with_reducible refine(ziD (x:=x) b1 (Ty.up _ h2 (hG.out.trans gF)) (Ty.up _ h3 (hG.out.trans gF)) a8 a9).mono ?_);rw[a6.out];rintro e2 v2 ⟨rfl,hg2⟩;have u0:=za (hG.out.trans (ft.trans (b:=_) gF hg2)) x0;have u1:=za (hG.out.trans (ft.trans (b:=_) gF hg2)) x1))
    all_goals exact QU (v:=H I) (by simp[Rd,results102,go_sem]) rfl ⟨by rw[HF.out],hG.out.trans (ft.trans (b:=_) gF (hg2.trans gF))⟩
   have a6:=fh a1;by_cases k0:x.Kind=0
   ·have ai:(x.Kind == 0)=M:=Rt.2 k0
    by_cases hf:kz xs x.Name=i
    ·have qf:(kz xs x.Name != (i:Int))=I:=by rw[n9,QY hf];rfl
     have HF:Hid (oM xs (xs.drop (i+1)) (i+1)=oM xs xs 0):=fh (by rw[<-hE.out,yU HX.out];unfold rW;rw[a1,Q5 k0,QY hf];rfl);clear a1 k0 hf;go_wp2_with(first | (go_at_call 158;(with_reducible refine(ziD (x:=x) b1 (Ty.up _ h2 (hG.out.trans gF)) (Ty.up _ h3 (hG.out.trans gF)) a8 a9).mono ?_);rw[a6.out];rintro e2 v2 ⟨rfl,hg2⟩;have u0:=za (hG.out.trans (ft.trans (b:=_) gF hg2)) x0;have u1:=za (hG.out.trans (ft.trans (b:=_) gF hg2)) x1) | (go_at_call 159;(with_reducible refine(zcY (Ty.up _ hx (hG.out.trans (ft.trans (b:=_) gF (hg2.trans gF)))) hl).mono ?_);rintro e3 v3 ⟨rfl,a4⟩));go_roundw;exact⟨i+1,by go_num,by omega,fh (hG.out.trans (ft.trans (b:=_) gF (hg2.trans (ft.trans (b:=_) gF (a4.trans gF))))),HF⟩;exact gH
    ·have qf:(kz xs x.Name != (i:Int))=M:=by rw[n9,QT hf];rfl
     have HF:Hid (zv xs=I):=fh (FB (by rw[<-hE.out,yU HX.out];unfold rW;rw[a1,Q5 k0,QT hf];rfl));clear a1 k0 hf;go_wp2_with(first | (go_at_call 158;(with_reducible refine(ziD (x:=x) b1 (Ty.up _ h2 (hG.out.trans gF)) (Ty.up _ h3 (hG.out.trans gF)) a8 a9).mono ?_);rw[a6.out];rintro e2 v2 ⟨rfl,hg2⟩;have u0:=za (hG.out.trans (ft.trans (b:=_) gF hg2)) x0;have u1:=za (hG.out.trans (ft.trans (b:=_) gF hg2)) x1) | (go_at_call 159;(with_reducible refine(zcY (Ty.up _ hx (hG.out.trans (ft.trans (b:=_) gF (hg2.trans gF)))) hl).mono ?_);rintro e3 v3 ⟨rfl,a4⟩))
     all_goals exact QU (v:=H I) (by simp[Rd,results102,go_sem]) rfl ⟨by rw[HF.out],hG.out.trans (ft.trans (b:=_) gF (hg2.trans (ft.trans (b:=_) gF (a4.trans gF))))⟩
   ·have ai:(x.Kind == 0)=I:=QV.2 k0
    have HF:Hid (oM xs (xs.drop (i+1)) (i+1)=oM xs xs 0):=fh (by rw[<-hE.out,yU HX.out];unfold rW;rw[a1,QZ k0];rfl);clear a1 k0;go_wp2_with(first | (go_at_call 158;(with_reducible refine(ziD (x:=x) b1 (Ty.up _ h2 (hG.out.trans gF)) (Ty.up _ h3 (hG.out.trans gF)) a8 a9).mono ?_);rw[a6.out];rintro e2 v2 ⟨rfl,hg2⟩;have u0:=za (hG.out.trans (ft.trans (b:=_) gF hg2)) x0;have u1:=za (hG.out.trans (ft.trans (b:=_) gF hg2)) x1));go_roundw;exact⟨i+1,by go_num,by omega,fh (hG.out.trans (ft.trans (b:=_) gF (hg2.trans gF))),HF⟩;exact gH
  ·obtain rfl:i=xs.length:=by omega
   have ag:¬ ((xs.length:Int)<(xs.length:Int)):=by omega
   have a7:Hid (zv xs=oJ xs xs.length 0):=fh (MQ ab.out HH.out an.out (by rw[<-hE.out,Rq];rfl));have au:=hG;clear hG hE;go_wp2_with(fail);go_loopw [4] (fun j wr=>∃(k n:Nat),j=J C k/\k<=xs.length/\xs.length<=n+k/\Hid (ft w wr)/\Hid (oJ xs n k=oJ xs xs.length 0)) (fun j _=>xs.length-(Ry j).toNat)
   case atStart=>exact⟨0,xs.length,rfl,QX _,by omega,fh (au.out.trans gF),fh rfl⟩
   case round=>
    obtain⟨k,n,rfl,hk,ax,hG,hE⟩:=hrel;by_cases hlt:k<xs.length
    ·obtain⟨g2,ah,x,al,ao,am,ap,a3,_,a5,x0,_,_,_,_,_,_,_⟩:=lK hx hlt
     injection a3 with a3
     injection a3 with e1 e2
     subst e1 e2;have ag:(k:Int)<(xs.length:Int):=by omega
     have v0:=za hG.out x0;have a2:=Nj a5 ax;clear a5;by_cases k0:x.Kind=0
     rotate_left
     ·have ai:(x.Kind != 0)=M:=by rw[n9,QT k0];rfl
      have HF:Hid (zv xs=I):=fh (by rw[a7.out,<-hE.out,a2,QT k0];rfl);obtain⟨ev,ak⟩:∃ ev,iN xs k=ev:=⟨_,rfl⟩
      have HE:=fh ak;clear ak a2 k0;exact ug
     have ai:(x.Kind != 0)=I:=by rw[n9,QY k0];rfl
     rcases wE xs k with⟨he,_⟩ | ⟨e,he,a0⟩
     ·have HE:=fh he
      have HF:Hid (zv xs=I):=fh (by rw[a7.out,<-hE.out,a2,he,QY k0];rfl);clear he a2 k0;exact ug
     have HE:=fh he;have aF:=a0.len;have aH:=a0.lt;have aE:¬ ((e:Int)<0):=by omega
     have aI:QP C ((e:Int)+1)=(e:Int)+1:=iw;rw[he,Ra,QY k0,QY (show (0:Int)<=(e:Int) by omega),Tr,Tr] at a2;rcases RB (my xs k e) with hb | hb
     ·have aa:=fh hb
      have HF:Hid (oJ xs (n-1) (e+1)=oJ xs xs.length 0):=fh (by rw[<-hE.out,a2,hb,Tr]);clear he a2 k0 hb;go_wp2_with(first | (go_at_call 160;(with_reducible refine(zbi (Ty.up _ hx (hG.out.trans gF)) hl).mono ?_);rw[HE.out];rintro e2 v2 ⟨rfl,hg2⟩;have u0:=za (hG.out.trans (ft.trans (b:=_) gF hg2)) x0) | (go_at_call 161;(with_reducible refine(ztV (Ty.up _ hx (hG.out.trans (ft.trans (b:=_) gF (hg2.trans gF)))) hl hs a0).mono ?_);rw[aa.out];rintro e3 v3 ⟨rfl,a4⟩));go_roundw;exact⟨e+1,n-1,by go_num,by omega,by omega,fh (hG.out.trans (ft.trans (b:=_) gF (hg2.trans (ft.trans (b:=_) gF (a4.trans gF))))),HF⟩;exact gH
     ·have aa:=fh hb
      have HF:Hid (zv xs=I):=fh (by rw[a7.out,<-hE.out,a2,hb];rfl);clear he a2 k0 hb;go_wp2_with(first | (go_at_call 160;(with_reducible refine(zbi (Ty.up _ hx (hG.out.trans gF)) hl).mono ?_);rw[HE.out];rintro e2 v2 ⟨rfl,hg2⟩;have u0:=za (hG.out.trans (ft.trans (b:=_) gF hg2)) x0) | (go_at_call 161;(with_reducible refine(ztV (Ty.up _ hx (hG.out.trans (ft.trans (b:=_) gF (hg2.trans gF)))) hl hs a0).mono ?_);rw[aa.out];rintro e3 v3 ⟨rfl,a4⟩))
      all_goals exact QU (v:=H I) (by simp[Rd,results102,go_sem]) rfl ⟨by rw[HF.out],hG.out.trans (ft.trans (b:=_) gF (hg2.trans (ft.trans (b:=_) gF (a4.trans gF))))⟩
    ·obtain rfl:k=xs.length:=by omega
     have ag:¬ ((xs.length:Int)<(xs.length:Int)):=by omega
     have HF:Hid (zv xs=M):=fh (by rw[a7.out,<-hE.out];exact LX (Q8 _));go_wp2_with(fail);exact QU (v:=H M) (by simp[Rd,results102,go_sem]) rfl ⟨by rw[HF.out],hG.out.trans gF⟩
theorem xP {b:fV}:Rh prog 104 #[.agg #[J C b.Frames,J C b.Inline,H b.Fold,H b.Split]] w fun r w'=>r=.returned (H (jM b))/\ft w w':=by
 go_enter func104,ntmps104;go_wp2_with(first | (go_at_call 43;(with_reducible refine(gY _ _ _ _).mono ?_);rintro e w1 ⟨rfl,rfl⟩))
 all_goals
  go_ret
  refine⟨zo ?_,gG⟩
  unfold jM
  simp_all
end Go.Proofs.YthgbglbaemelhaaGreat
