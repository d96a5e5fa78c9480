/-
  PART.
-/
import Derived.Test.YtiihkapmggfjkaaGreatM35LawMakeDebug
import Derived.Test.YtiihkapmggfjkaaGreatM45LawMakeDebug
set_option linter.unusedVariables false
set_option linter.unusedSimpArgs false
set_option maxRecDepth 100000
set_option maxHeartbeats 8000000
namespace Go.Proofs.YtiihkapmggfjkaaGreat
open Value renaming slice->J,int->F,bool->X,string->G
open IntKind renaming i64->I,wrap->Ll
open Option renaming none->V,some->H
open Obj renaming cells->C
open Bool renaming false->U,true->M
open Go renaming World->N,results->Ly,Calls->LR,Addr->Mh,Value->LA,yielded->NA
open World renaming cell?->Lg
open List renaming length_cons->LJ,range'->Nn
open RowKit renaming intOf->Ml
open Region renaming wanted->MI,ready->MK,Mode->Nz,noSelect->ND,free->Oq
open Tryz
open Go.RowKit
variable {A A':K Mh}{c c' level q:Nat}{chain ys:Q Int}{nm:D}{p:Q fG}{w:N}{xs:Q fQ}
theorem zpK {xs:Q Int} (hx:(zF.sl 3).R w w.heap.size [J A xs.length c] xs)(hy:(zF.sl 3).R w w.heap.size [J A' ys.length c'] ys) :
  LR prog 116 #[J A xs.length c,J A' ys.length c'] w fun e w'=>e=.returned (X (decide (xs=ys)))/\fF w w':=by
 obtain⟨_,_,hv,h1,h2⟩:=jV hx;obtain⟨_,_,ab,k1,k2⟩:=jV hy;injection hv with q1 _ q2
 injection ab with q3 _ q4
 subst q1 q2 q3 q4;by_cases hl:xs.length=ys.length
 ·have aa:((xs.length:Int) != (ys.length:Int))=U:=by simp[hl]
  have HL:=fE hl;have ah:xs.length<=ys.length:=by omega
  clear hl;go_enter func116,ntmps116;go_wp2_with(fail);go_loopw [13] (fun i wr=>∃ k:Nat,k<=xs.length/\i=F I k/\Hid (fF w wr)/\Hid (xs.take k=ys.take k)) (fun i _=>xs.length-(Ml i).toNat)
  case atStart=>exact⟨0,Lv _,rfl,fF.refl _,fE (by simp)⟩
  case round=>
   obtain⟨k,hk,rfl,hG,HT⟩:=hrel;by_cases hlt:k<xs.length
   ·have a2:k<ys.length:=by omega
    obtain⟨g,a7,x,rfl,a4,a3,ac,ad⟩:=lR hx hlt;obtain⟨g',a1,y,rfl,a6,a5,ae,af⟩:=lR hy a2;have a3:=za hG.out a3;have a5:=za hG.out a5;have HX:=fE a4;have HY:=fE a6;have a9:(k:Int)<(xs.length:Int):=by omega
    have ag:(k:Int)<(ys.length:Int):=by omega
    have ai:Ll I ((k:Int)+1)=(k:Int)+1:=iw;clear a4 a6;by_cases hc:x=y
    ·have a8:(x != y)=U:=by simp[hc]
     have a0:=fE hc;clear hc;go_upto_region 6 with(fail);go_region_held3 (fun w'=>Lg w' ⟨g,a7+k,V⟩=H (F I x)/\Lg w' ⟨g',a1+k,V⟩=H (F I y)) ((repeat' apply Ls) <;> (first | ((repeat (first | assumption | with_reducible refine zC ?_ _ _ | with_reducible refine zo ?_ _ | with_reducible refine zb ?_));done) | (simp[go_sem];done))) (fail)
     all_goals go_wp2_with(fail)
     all_goals go_roundw
     exact⟨k+1,by omega,by go_num,fE (hG.out.trans gF),fE (by rw[lJ HX.out,lJ HY.out,HT.out,a0.out])⟩;exact gL
    ·have a8:(x != y)=M:=by simp[hc]
     have a0:Hid (decide (xs=ys)=U):=fE (LK (fun h=>by subst h;rw[HX.out] at HY;have:=HY.out;injection this with h;exact hc h));clear hc;go_upto_region 6 with(fail);go_region_held3 (fun w'=>Lg w' ⟨g,a7+k,V⟩=H (F I x)/\Lg w' ⟨g',a1+k,V⟩=H (F I y)) ((repeat' apply Ls) <;> (first | ((repeat (first | assumption | with_reducible refine zC ?_ _ _ | with_reducible refine zo ?_ _ | with_reducible refine zb ?_));done) | (simp[go_sem];done))) (fail)
     all_goals go_wp2_with(fail)
     all_goals exact Ln (v:=X U) (by simp[Ly,results116,go_sem]) rfl ⟨by rw[a0.out],hG.out.trans gF⟩
   ·obtain rfl:k=xs.length:=by omega
    have a9:¬ ((xs.length:Int)<(xs.length:Int)):=by omega
    have a0:Hid (decide (xs=ys)=M):=fE (LN (by have h:=HT.out;rw[MJ,HL.out,MJ] at h;exact h));go_wp2_with(fail);exact Ln (v:=X M) (by simp[Ly,results116,go_sem]) rfl ⟨by rw[a0.out],hG.out⟩
 ·have aa:((xs.length:Int) != (ys.length:Int))=M:=by simp;omega
  have a0:Hid (decide (xs=ys)=U):=fE (LK (fun h=>hl (by rw[h])));go_enter func116,ntmps116;go_wp2_with(fail);exact Ln (v:=X U) (by simp[Ly,results116,go_sem]) rfl ⟨by rw[a0.out],gF⟩
theorem Er {xs:Q Int} {n m:Nat} (hn:xs.length=n)(hm:ys.length=m)(hx:(zF.sl 3).R w w.heap.size [J A n c] xs)(hy:(zF.sl 3).R w w.heap.size [J A' m c'] ys) :
  LR prog 116 #[J A n c,J A' m c'] w fun e w'=>e=.returned (X (decide (xs=ys)))/\fF w w':=by
 subst hn;subst hm;exact zpK hx hy
def oI (p:Q fG)(level:Nat)(chain:Q Int)(nm:D)(xs:Q fQ)(q:Nat):Bool:=match xs[q]? with
 | some z=>lP p level chain nm z
 | none=>U
theorem Ji (h:oI p level chain nm xs q=M):∃ z,xs[q]?=H z/\lP p level chain nm z=M:=by
 unfold oI at h;split at h
 ·rename_i z hz
  exact⟨z,hz,h⟩
 ·cases h
theorem Ks {z:fQ} (h:oI p level chain nm xs q=U)(hz:xs[q]?=H z):lP p level chain nm z=U:=by
 unfold oI at h;rw[hz] at h;exact h
theorem rA {g:Prop} (f:g:=by
  refine .tk 14 [15,30,31,42] hH ?_
  refine .tk 15 [30,31,42] hH ?_
  refine .sk 16 [18,19,20,21,24,29,31,42] hH ?_
  refine .sk 17 [18,19,20,21,24,29,31,42] hH ?_
  refine .sk 18 [19,20,21,24,29,31,42] hH ?_
  refine .sk 19 [20,21,24,29,31,42] hH ?_
  refine .sk 20 [21,24,29,31,42] hH ?_
  refine .sk 21 [24,29,31,42] hH ?_
  refine .sk 22 [23,24,29,31,42] hH ?_
  refine .sk 23 [24,29,31,42] hH ?_
  refine .sk 24 [29,31,42] hH ?_
  refine .sk 25 [28,29,31,42] hH ?_
  refine .sk 26 [27,28,29,31,42] hH ?_
  refine .sk 27 [28,29,31,42] hH ?_
  refine .sk 28 [29,31,42] hH ?_
  refine .sk 29 [31,42] hH ?_
  refine .tk 30 [31,42] hH ?_
  refine .tk 31 [42] hH ?_
  refine .sk 32 [39,41,42] hH ?_
  refine .sk 33 [35,36,37,39,41,42] hH ?_
  refine .sk 34 [35,36,37,39,41,42] hH ?_
  refine .sk 35 [36,37,39,41,42] hH ?_
  refine .sk 36 [37,39,41,42] hH ?_
  refine .sk 37 [39,41,42] hH ?_
  refine .sk 38 [39,41,42] hH ?_
  refine .sk 39 [41,42] hH ?_
  refine .sk 40 [41,42] hH ?_
  refine .sk 41 [42] hH ?_
  refine fX.last (by kernel_rfl) rfl (by kernel_rfl) (fun Le hK=>?_)
  go_simp
  refine hK.out _ _ ?_
  clear hK
  try simp only[lay]
  go_wp2_with(fail)
  go_meet
  exact⟨by rw[HRB.out],hdr⟩):g:=f
theorem znh {B:K Mh} {d:Nat} (hp:(zM.sl 87).R w w.heap.size [J A p.length c] p)(hpl:p.length<=1000000)(hps:∀ x∈p,x.fP.length<=1099511627776/\x.Expr.length<=1099511627776)(hnm:∀ x∈p,x.Name.size<=9223372036854775807)
  (hx:(oH.sl 133).R w w.heap.size [J B xs.length d] xs) (hl:xs.length<=100000) (hch:∀ x∈xs,x.Item.fH.length<=100) :
  LR prog 49 #[J A p.length c,J B xs.length d] w (Ed (zS p xs) w):=by
 obtain⟨pb,br⟩:∃ b,zs p=b:=⟨_,rfl⟩
 have au:=fE br;have ak:p.length<=1099511627776:=by omega
 have bU:xs.length<=1000000:=by omega
 have aH:=fE hch;clear br;cases pb with
 | false=>
  have HE:Hid (zS p xs = []):=fE (by unfold zS;rw[Lt (by rw[au.out];simp)]);clear hch;go_enter func49,ntmps49;go_wp2_with(first | (go_at_call 41;(with_reducible refine(zav hp ak hps).mono ?_);rw[au.out];rintro e w1 ⟨rfl,a0⟩));exact Ln (v:=J V 0 0) (by simp[Ly,results49,go_sem]) rfl (by rw[HE.out];exact⟨V,0,[],rfl,Has.nil _ _ _,(fun b hb=>by cases hb),a0⟩)
 | true=>
 obtain⟨nb,a9⟩:∃ b,mn xs=b:=⟨_,rfl⟩
 have aq:=fE a9;clear a9;cases nb with
 | false=>
  have HE:Hid (zS p xs = []):=fE (by unfold zS;rw[Lt (by rw[aq.out];simp)]);clear hch;go_enter func49,ntmps49;go_wp2_with(first | (go_at_call 41;(with_reducible refine(zav hp ak hps).mono ?_);rw[au.out];rintro e w1 ⟨rfl,a0⟩));have HW:=fE a0;go_loopw [5,19] (fun z5 z19 wr=>∃(k m:Nat),z5=F I m/\z19=F I k/\k<=xs.length/\m<=100/\Hid (fF w wr)/\Hid (mn (xs.drop k)=U)) (fun _ z19 _=>xs.length-(Ml z19).toNat)
  case atStart=>exact⟨0,0,rfl,rfl,Lv _,Lv _,HW,aq⟩
  case round=>
  obtain⟨k,m,rfl,rfl,hk,hm,a4,hN⟩:=hrel;by_cases hlt:k<xs.length
  ·obtain⟨g,a3,x,am,an,rfl,bG,ab,x0,x1,x2,x3,x4,x5,x6,x7,xa,_,_,_,_,_⟩:=l2 hx hlt
   have hkn:(k:Int)<(xs.length:Int):=by omega
   have bt:Ll I ((k:Int)+1)=(k:Int)+1:=iw;have aF:=aH.out x (LP ab);have x0:=za a4.out x0;have x1:=za a4.out x1;have x2:=za a4.out x2;have x3:=za a4.out x3;have x4:=za a4.out x4;have x5:=za a4.out x5;have x6:=za a4.out x6;have x7:=za a4.out x7;obtain⟨nb,a9⟩:∃ b,gW x.Offset 0 1000000=b:=⟨_,rfl⟩
   have HB:=fE a9;have HA:=fE (zn ab);clear ab a9;go_upto_region 7 with(fail);have eb:=Lp wr (C #[F I x.Offset,F I x.Item.Op.Code,F I x.Item.Op.Arg,F I x.Item.fN,X x.Item.Start,J am x.Item.fH.length an,F I x.Item.fK,X x.Item.fI] 133);have ae:fF w (wr.alloc (C #[F I x.Offset,F I x.Item.Op.Code,F I x.Item.Op.Arg,F I x.Item.fN,X x.Item.Start,J am x.Item.fH.length an,F I x.Item.fK,X x.Item.fI] 133)):=a4.out.alloc _;obtain⟨g7,ay⟩:∃ g,wr.heap.size=g:=⟨_,rfl⟩
   rw[ay] at eb |-;clear ay;generalize (wr.alloc _)=Y at eb ae |-;obtain⟨o0,_,_,_,_,o5,_,_,_,_⟩:=jA eb;clear x0 x1 x2 x3 x4 x5 x6 x7 eb;cases nb with
   | true=>
    by_cases hmx:m<x.Item.fH.length
    ·have HM:Hid (max m x.Item.fH.length=x.Item.fH.length):=fE (OL (by omega))
     have aY:((m:Int)<(x.Item.fH.length:Int)):=by omega
     have aj:max (m:Int) (x.Item.fH.length:Int)=(x.Item.fH.length:Int):=by omega
     go_wp2_with(first | (go_at_call 43;(with_reducible refine(jr _ _ _ _).mono ?_);rw[HB.out];rintro e w3 ⟨rfl,rfl⟩));go_roundw;exact⟨k+1,x.Item.fH.length,rfl,by go_num,by omega,by omega,fE (ae.trans gF),fE (by rw[<-hN.out,HA.out,HB.out];rfl)⟩;exact gL
    ·have HM:Hid (max m x.Item.fH.length=m):=fE (OO (by omega))
     have aY:¬ ((m:Int)<(x.Item.fH.length:Int)):=by omega
     have aj:max (m:Int) (x.Item.fH.length:Int)=(m:Int):=by omega
     go_wp2_with(first | (go_at_call 43;(with_reducible refine(jr _ _ _ _).mono ?_);rw[HB.out];rintro e w3 ⟨rfl,rfl⟩));go_roundw;exact⟨k+1,m,rfl,by go_num,by omega,by omega,fE (ae.trans gF),fE (by rw[<-hN.out,HA.out,HB.out];rfl)⟩;exact gL
   | false=>
    go_wp2_with(first | (go_at_call 43;(with_reducible refine(jr _ _ _ _).mono ?_);rw[HB.out];rintro e w3 ⟨rfl,rfl⟩));exact Ln (v:=J V 0 0) (by simp[Ly,results49,go_sem]) rfl (by rw[HE.out];exact⟨V,0,[],rfl,Has.nil _ _ _,(fun b hb=>by cases hb),ae.trans gF⟩)
  ·obtain rfl:k=xs.length:=by omega
   exact absurd hN.out (by rw[LY];simp[mn])
 | true=>
  have HE:=fE (Bh au.out aq.out);have bg:=fE (xt (p:=p) hl hch);obtain⟨Lf,hD⟩:∃ Lf,tA xs=Lf:=⟨_,rfl⟩
  have bS:Lf<=100:=by rw[<-hD];exact wG xs 0 (by omega) hch
  have aI:=fE hD;clear hD;go_enter func49,ntmps49;go_wp2_with(first | (go_at_call 41;(with_reducible refine(zav hp ak hps).mono ?_);rw[au.out];rintro e w1 ⟨rfl,a0⟩));have HW:=fE a0;go_loopw [5,19] (fun z5 z19 wr=>∃(k m:Nat),z5=F I m/\z19=F I k/\k<=xs.length/\m<=100/\Hid (fF w wr)/\Hid ((xs.drop k).foldl (fun n x=>max n x.Item.fH.length) m=Lf)) (fun _ z19 _=>xs.length-(Ml z19).toNat)
  case atStart=>exact⟨0,0,rfl,rfl,Lv _,Lv _,HW,aI⟩
  case round=>
  obtain⟨k,m,rfl,rfl,hk,hm,a4,hN⟩:=hrel;by_cases hlt:k<xs.length
  ·obtain⟨g,a3,x,am,an,rfl,bG,ab,x0,x1,x2,x3,x4,x5,x6,x7,xa,_,_,_,_,_⟩:=l2 hx hlt
   have hkn:(k:Int)<(xs.length:Int):=by omega
   have bt:Ll I ((k:Int)+1)=(k:Int)+1:=iw;have aF:=aH.out x (LP ab);have x0:=za a4.out x0;have x1:=za a4.out x1;have x2:=za a4.out x2;have x3:=za a4.out x3;have x4:=za a4.out x4;have x5:=za a4.out x5;have x6:=za a4.out x6;have x7:=za a4.out x7;obtain⟨nb,a9⟩:∃ b,gW x.Offset 0 1000000=b:=⟨_,rfl⟩
   have HB:=fE a9;have HA:=fE (Ea ab m);have bq:=zX.2 (uV aq.out ab);obtain rfl:nb=M:=by rw[<-a9];exact bq
   clear ab a9 bq;go_upto_region 7 with(fail);have eb:=Lp wr (C #[F I x.Offset,F I x.Item.Op.Code,F I x.Item.Op.Arg,F I x.Item.fN,X x.Item.Start,J am x.Item.fH.length an,F I x.Item.fK,X x.Item.fI] 133);have ae:fF w (wr.alloc (C #[F I x.Offset,F I x.Item.Op.Code,F I x.Item.Op.Arg,F I x.Item.fN,X x.Item.Start,J am x.Item.fH.length an,F I x.Item.fK,X x.Item.fI] 133)):=a4.out.alloc _;obtain⟨g7,ay⟩:∃ g,wr.heap.size=g:=⟨_,rfl⟩
   rw[ay] at eb |-;clear ay;generalize (wr.alloc _)=Y at eb ae |-;obtain⟨o0,_,_,_,_,o5,_,_,_,_⟩:=jA eb;clear x0 x1 x2 x3 x4 x5 x6 x7 eb;by_cases hmx:m<x.Item.fH.length
   ·have HM:Hid (max m x.Item.fH.length=x.Item.fH.length):=fE (OL (by omega))
    have aY:((m:Int)<(x.Item.fH.length:Int)):=by omega
    have aj:max (m:Int) (x.Item.fH.length:Int)=(x.Item.fH.length:Int):=by omega
    go_wp2_with(first | (go_at_call 43;(with_reducible refine(jr _ _ _ _).mono ?_);rw[HB.out];rintro e w3 ⟨rfl,rfl⟩));go_roundw;exact⟨k+1,x.Item.fH.length,rfl,by go_num,by omega,by omega,fE (ae.trans gF),fE (by rw[<-hN.out,HA.out,HM.out])⟩;exact gL
   ·have HM:Hid (max m x.Item.fH.length=m):=fE (OO (by omega))
    have aY:¬ ((m:Int)<(x.Item.fH.length:Int)):=by omega
    have aj:max (m:Int) (x.Item.fH.length:Int)=(m:Int):=by omega
    go_wp2_with(first | (go_at_call 43;(with_reducible refine(jr _ _ _ _).mono ?_);rw[HB.out];rintro e w3 ⟨rfl,rfl⟩));go_roundw;exact⟨k+1,m,rfl,by go_num,by omega,by omega,fE (ae.trans gF),fE (by rw[<-hN.out,HA.out,HM.out])⟩;exact gL
  ·obtain rfl:k=xs.length:=by omega
   have aW:¬ ((xs.length:Int)<(xs.length:Int)):=by omega
   obtain rfl:m=Lf:=by have h:=hN.out;rw[LY] at h;exact h
   have e8:=Lp wr (C #[] 143);have be:=fE (Has.emp jH e8);have bb:=fE (a4.out.alloc (C #[] 143));have bh:=fE a4.out.size;clear e8;go_wp2_with(fail);clear aW;go_loopw [8,9] (fun z8 z9 wr=>∃(level:Nat) (acc:Q gJ) (A5:K Mh) (c5:Nat) (S:Q Nat),z8=J A5 acc.length c5/\z9=F I level/\level<=m/\Hid (fF w wr)/\Hid (Has (jH.sl 143) wr [J A5 acc.length c5] acc S)/\Hid (∀ b∈S,w.heap.size<=b)/\Hid (acc++(Nn level (m-level)).flatMap (fun lv=>mF p lv xs)=zS p xs)) (fun _ z9 _=>m-(Ml z9).toNat)
   case atStart=>exact⟨0,[],_,0,[wr.heap.size],rfl,rfl,Lv _,bb,be,fE (fun b hb=>by have h:=bh.out;simp only[Lr] at hb;omega),fE (by rw[HE.out,aI.out];rfl)⟩
   case round=>
   obtain⟨level,ac,aG,aL,S0,rfl,rfl,bV,aO,aP,aQ,aN⟩:=hrel;by_cases hlt:level<m
   ·have bI:(level:Int)<(m:Int):=by omega
    have bM:Ll I ((level:Int)+1)=(level:Int)+1:=iw;obtain⟨REST,a6⟩:∃ R,(Nn (level+1) (m-(level+1))).flatMap (fun lv=>mF p lv xs)=R:=⟨_,rfl⟩
    have HR:=fE a6;have b9:Hid (ac++(mF p level (xs.drop 0)++REST)=zS p xs):=fE (by rw[<-aN.out,Ds hlt,a6];rfl);have a8:level<=1000:=by omega
    clear a6;go_wp2_with(fail);go_loopw [8,10] (fun z8 z10 wr=>∃(k:Nat) (acc:Q gJ) (A5:K Mh) (c5:Nat) (S:Q Nat),z8=J A5 acc.length c5/\z10=F I k/\k<=xs.length/\Hid (fF w wr)/\Hid (Has (jH.sl 143) wr [J A5 acc.length c5] acc S)/\Hid (∀ b∈S,w.heap.size<=b)/\Hid (acc++(mF p level (xs.drop k)++REST)=zS p xs)) (fun _ z10 _=>xs.length-(Ml z10).toNat)
    case atStart=>exact⟨0,ac,aG,aL,S0,rfl,rfl,Lv _,aO,aP,aQ,b9⟩
    case round=>
    obtain⟨k,acc,A5,c5,S,rfl,rfl,hk,hG,hH,hS,hA⟩:=hrel;by_cases hlt:k<xs.length
    ·obtain⟨g,a3,x,am,an,rfl,bH,ab,x0,x1,x2,x3,x4,x5,x6,x7,b0,b1,b2,b3,h5,b6⟩:=l2 hx hlt
     have hkn:(k:Int)<(xs.length:Int):=by omega
     have bt:Ll I ((k:Int)+1)=(k:Int)+1:=iw;have bC:=fE x0;have x0:=za hG.out x0;have x1:=za hG.out x1;have x2:=za hG.out x2;have x3:=za hG.out x3;have x4:=za hG.out x4;have x5:=za hG.out x5;have x6:=za hG.out x6;have x7:=za hG.out x7;have HXK:=fE ab;clear ab;by_cases hlv:level<x.Item.fH.length
     ·have aX:¬ ((x.Item.fH.length:Int)<=(level:Int)):=by omega
      have bp:(level:Int)<(x.Item.fH.length:Int):=by omega
      obtain⟨gc,oc,cl,aM,aF,cc,aR⟩:=lR h5 hlv;have az:=MM _ _ cc;simp only at az;have CC:=fE cc;have ba:Hid (x.Item.fH.getD level 0=cl):=fE (by rw[Mp,aF];rfl);have ad:g∉S:=fun hm=>by have h:=hS.out g hm;omega
      have aT:gc∉S:=fun hm=>by have h:=hS.out gc hm;omega
      obtain⟨nm,aD⟩:∃ s,zN p x.Item level=s:=⟨_,rfl⟩
      have ar:=fE aD;have bD:=fE h5;have bu:=Ty.up _ h5 hG.out;have bO:=aH.out x (LP HXK.out);subst aM;clear aF aD h5;go_wp2_with(first | (go_at_call 115;(with_reducible refine(znC (x:=x.Item) (Ty.up _ hp (hG.out.trans gF)) hpl (Ty.up _ bu gF) a8).mono ?_);rintro e w5 ⟨rfl,aS⟩));have aB:fF w w5:=hG.out.trans (fF.trans (b:=_) gF aS);have bf:=fE (hH.out.fO (fF.trans (b:=_) gF aS));have bc:=fE aB;clear bu aB aS hH hG x0 x1 x2 x3 x4 x5 x6 x7;rw[ar.out];go_loopw [12] (fun z12 wr=>∃ q j:Nat,z12=F I q/\q<=xs.length/\k<q/\Hid (q=k+1+j)/\Hid (fF w5 wr)/\Hid (ju (lP p level x.Item.fH nm) xs k j)) (fun z12 _=>xs.length-(Ml z12).toNat)
      case atStart=>exact⟨k+1,0,by go_num,by omega,by omega,fE rfl,fE (fF.refl _),fE (C4 _ _ _)⟩
      case round=>
      obtain⟨q,j,rfl,bX,bT,av,ai,ah⟩:=hrel;go_upto_region 22 with(fail);go_cut [107] from 65 to 106 (fun v wx=>v=X (oI p level x.Item.fH nm xs q)/\fF wr wx)
      case first=>
       clear HR HE hA aP aQ aO aN b9 be bb bh ar ba HXK bg aI cc ah bf hS;have a2:=bc.out.trans ai.out;by_cases hqn:q<xs.length
       ·have bK:(q:Int)<(xs.length:Int):=by omega
        obtain⟨g',al,z,ap,ax,ag,_,ao,z0,z1,z2,z3,z4,z5,z6,z7,_,_,_,_,bw,_⟩:=l2 hx hqn;injection ag with ag
        injection ag with hBB1 hBB2
        obtain rfl:g=g':=hBB1;obtain rfl:a3=al:=hBB2;have z0:=za a2 z0;have z1:=za a2 z1;have z2:=za a2 z2;have z3:=za a2 z3;have z4:=za a2 z4;have z5:=za a2 z5;have z6:=za a2 z6;have z7:=za a2 z7;have bx:=Ty.up _ bw a2;have aK:Hid (oI p level x.Item.fH nm xs q=lP p level x.Item.fH nm z):=fE (by unfold oI;rw[ao]);clear ao bw;by_cases b8:level<z.Item.fH.length
        ·have bQ:(z.Item.fH.length:Int) > (level:Int):=by omega
         obtain⟨bL,bi⟩:=ud kJ (k:=level+1) bx (by omega);obtain⟨b5,bj⟩:=ud kJ (k:=level+1) (Ty.up _ bD.out a2) (by omega);rw[show ((level+1:Nat):Int)=(level:Int)+1 from rfl] at bL b5;have bm:(z.Item.fH.take (level+1)).length=level+1:=by rw[MG];omega
         have bn:(x.Item.fH.take (level+1)).length=level+1:=by rw[MG];omega
         obtain⟨eb,bk⟩:∃ b,decide (z.Item.fH.take (level+1)=x.Item.fH.take (level+1))=b:=⟨_,rfl⟩
         have aE:=fE bk;clear bk;cases eb with
         | true=>
          obtain⟨nb,a9⟩:∃ b,((zN p z.Item level).toList == nm.toList)=b:=⟨_,rfl⟩
          have HRB:Hid (oI p level x.Item.fH nm xs q=nb):=fE (by rw[aK.out,<-a9,mw];unfold lP;rw[aE.out];simp[b8]);clear z0;refine kC (fun w'=>Lg w' ⟨g,a3+q*8+1,V⟩=H (F I z.Item.Op.Code)/\Lg w' ⟨g,a3+q*8+2,V⟩=H (F I z.Item.Op.Arg)/\Lg w' ⟨g,a3+q*8+3,V⟩=H (F I z.Item.fN)/\Lg w' ⟨g,a3+q*8+4,V⟩=H (X z.Item.Start)/\Lg w' ⟨g,a3+q*8+5,V⟩=H (J ap z.Item.fH.length ax)/\Lg w' ⟨g,a3+q*8+6,V⟩=H (F I z.Item.fK)/\Lg w' ⟨g,a3+q*8+7,V⟩=H (X z.Item.fI)) 42 (by kernel_rfl) (Ls (zb z1) (Ls (zb z2) (Ls (zb z3) (Ls (zb z4) (Ls (zb z5) (Ls (zb z6) (zb z7))))))) (fun hH=>?_);have hdr:fF wr wr.drew:=(fF.refl _).drew;clear z1 z2 z3 z4 z5 z6 z7;generalize wr.drew=wx at hdr hH |-;obtain⟨z1,z2,z3,z4,z5,z6,z7⟩:=id hH;refine .tk 0 [3,4,15,30,31,42] hH ?_;refine .tk 1 [2,3,4,15,30,31,42] hH ?_;refine .tk 2 [3,4,15,30,31,42] hH ?_;refine .tk 3 [4,15,30,31,42] hH ?_;refine .tk 4 [15,30,31,42] hH ?_;refine .tk 5 [7,8,9,10,11,13,14,15,30,31,42] hH ?_;refine .tk 6 [7,8,9,10,11,13,14,15,30,31,42] hH ?_;refine .tk 7 [8,9,10,11,13,14,15,30,31,42] hH ?_;refine .tk 8 [9,10,11,13,14,15,30,31,42] hH ?_;refine .tk 9 [10,11,13,14,15,30,31,42] hH ?_;refine .tk 10 [11,13,14,15,30,31,42] hH ?_;refine .tk 11 [13,14,15,30,31,42] hH ?_;refine .tk 12 [13,14,15,30,31,42] hH ?_;refine .tk 13 [14,15,30,31,42] hH ?_;refine .tk 14 [15,30,31,42] hH ?_;refine .tk 15 [30,31,42] hH ?_;refine .tk 16 [18,19,20,21,24,29,31,42] hH ?_;refine .tk 17 [18,19,20,21,24,29,31,42] hH ?_;refine .tk 18 [19,20,21,24,29,31,42] hH ?_;refine .tk 19 [20,21,24,29,31,42] hH ?_;refine .tk 20 [21,24,29,31,42] hH ?_;refine .tk 21 [24,29,31,42] hH ?_;refine .tk 22 [23,24,29,31,42] hH ?_;refine .tk 23 [24,29,31,42] hH ?_;refine .tk 24 [29,31,42] hH ?_;refine .tk 25 [28,29,31,42] hH ?_;refine .tk 26 [27,28,29,31,42] hH ?_;refine .tk 27 [28,29,31,42] hH ?_;refine .tk 28 [29,31,42] hH ?_;refine fX.one (i:=29) (by kernel_rfl) rfl (fun Le hK=>?_);go_simp;go_at_call 116;(with_reducible refine(Er (xs:=z.Item.fH.take (level+1)) (ys:=x.Item.fH.take (level+1)) bm bn (Ty.up _ bi hdr) (Ty.up _ bj hdr)).mono ?_);rw[aE.out];rintro e v1 ⟨rfl,a0⟩;have a7:=hdr.trans a0;have z1:=za a0 z1;have z2:=za a0 z2;have z3:=za a0 z3;have z4:=za a0 z4;have z5:=za a0 z5;have z6:=za a0 z6;have z7:=za a0 z7;refine hK.out _ _ (Ls z1 (Ls z2 (Ls z3 (Ls z4 (Ls z5 (Ls z6 z7)))))) (fun hI=>?_);clear hK hH;have hH:=hI
          try simp only[lay]
          refine .tk 30 [31,42] hH ?_;refine .tk 31 [42] hH ?_;refine .tk 32 [39,41,42] hH ?_;refine .tk 33 [35,36,37,39,41,42] hH ?_;refine .tk 34 [35,36,37,39,41,42] hH ?_;refine .tk 35 [36,37,39,41,42] hH ?_;refine .tk 36 [37,39,41,42] hH ?_;refine .tk 37 [39,41,42] hH ?_;refine .tk 38 [39,41,42] hH ?_;refine .tk 40 [41,42] hH ?_;refine fX.one (i:=39) (by kernel_rfl) rfl (fun Le hK=>?_);go_simp;go_at_call 115;(with_reducible refine(znC (x:=z.Item) (Ty.up _ hp (a2.trans a7)) hpl (Ty.up _ bx a7) a8).mono ?_);rintro e v2 ⟨rfl,af⟩;have aU:=a7.trans af;have z1:=za af z1;have z2:=za af z2;have z3:=za af z3;have z4:=za af z4;have z5:=za af z5;have z6:=za af z6;have z7:=za af z7;refine hK.out _ _ (Ls z1 (Ls z2 (Ls z3 (Ls z4 (Ls z5 (Ls z6 z7)))))) (fun hI=>?_);clear hK hH;have hH:=hI
          try simp only[lay]
          refine .tk 41 [42] hH ?_;refine fX.last (by kernel_rfl) rfl (by kernel_rfl) (fun Le hK=>?_);go_simp;refine hK.out _ _ ?_;clear hK
          try simp only[lay]
          go_wp2_with(fail);go_meet;exact⟨by rw[HRB.out],aU⟩
         | false=>
          have HRB:Hid (oI p level x.Item.fH nm xs q=U):=fE (by rw[aK.out];unfold lP;rw[aE.out];simp);clear z0 z1 z2 z3 z4 z6 z7;refine kC (fun w'=>Lg w' ⟨g,a3+q*8+5,V⟩=H (J ap z.Item.fH.length ax)) 42 (by kernel_rfl) (zb z5) (fun hH=>?_);have hdr:fF wr wr.drew:=(fF.refl _).drew;clear z5;generalize wr.drew=wx at hdr hH |-;have z5:=hH;refine .tk 0 [3,4,15,30,31,42] hH ?_;refine .tk 1 [2,3,4,15,30,31,42] hH ?_;refine .tk 2 [3,4,15,30,31,42] hH ?_;refine .tk 3 [4,15,30,31,42] hH ?_;refine .tk 4 [15,30,31,42] hH ?_;refine .tk 5 [7,8,9,10,11,13,14,15,30,31,42] hH ?_;refine .tk 6 [7,8,9,10,11,13,14,15,30,31,42] hH ?_;refine .tk 7 [8,9,10,11,13,14,15,30,31,42] hH ?_;refine .tk 8 [9,10,11,13,14,15,30,31,42] hH ?_;refine .tk 9 [10,11,13,14,15,30,31,42] hH ?_;refine .tk 10 [11,13,14,15,30,31,42] hH ?_;refine .tk 11 [13,14,15,30,31,42] hH ?_;refine .tk 12 [13,14,15,30,31,42] hH ?_;refine .tk 13 [14,15,30,31,42] hH ?_;refine .tk 14 [15,30,31,42] hH ?_;refine .tk 15 [30,31,42] hH ?_;refine .tk 16 [18,19,20,21,24,29,31,42] hH ?_;refine .tk 17 [18,19,20,21,24,29,31,42] hH ?_;refine .tk 18 [19,20,21,24,29,31,42] hH ?_;refine .tk 19 [20,21,24,29,31,42] hH ?_;refine .tk 20 [21,24,29,31,42] hH ?_;refine .tk 21 [24,29,31,42] hH ?_;refine .tk 22 [23,24,29,31,42] hH ?_;refine .tk 23 [24,29,31,42] hH ?_;refine .tk 24 [29,31,42] hH ?_;refine .tk 25 [28,29,31,42] hH ?_;refine .tk 26 [27,28,29,31,42] hH ?_;refine .tk 27 [28,29,31,42] hH ?_;refine .tk 28 [29,31,42] hH ?_;refine fX.one (i:=29) (by kernel_rfl) rfl (fun Le hK=>?_);go_simp;go_at_call 116;(with_reducible refine(Er (xs:=z.Item.fH.take (level+1)) (ys:=x.Item.fH.take (level+1)) bm bn (Ty.up _ bi hdr) (Ty.up _ bj hdr)).mono ?_);rw[aE.out];rintro e v1 ⟨rfl,a0⟩;have a7:=hdr.trans a0;have z5:=za a0 z5;refine hK.out _ _ z5 (fun hI=>?_);clear hK hH;have hH:=hI
          try simp only[lay]
          refine .tk 30 [31,42] hH ?_;refine .tk 31 [42] hH ?_;refine .sk 32 [39,41,42] hH ?_;refine .sk 33 [35,36,37,39,41,42] hH ?_;refine .sk 34 [35,36,37,39,41,42] hH ?_;refine .sk 35 [36,37,39,41,42] hH ?_;refine .sk 36 [37,39,41,42] hH ?_;refine .sk 37 [39,41,42] hH ?_;refine .sk 38 [39,41,42] hH ?_;refine .sk 39 [41,42] hH ?_;refine .sk 40 [41,42] hH ?_;refine .sk 41 [42] hH ?_;refine fX.last (by kernel_rfl) rfl (by kernel_rfl) (fun Le hK=>?_);go_simp;refine hK.out _ _ ?_;clear hK
          try simp only[lay]
          go_wp2_with(fail);go_meet;exact⟨by rw[HRB.out],a7⟩
        ·have bQ:¬ ((z.Item.fH.length:Int) > (level:Int)):=by omega
         have HRB:Hid (oI p level x.Item.fH nm xs q=U):=fE (by rw[aK.out];unfold lP;simp[b8]);clear z0 z1 z2 z3 z4 z6 z7;refine kC (fun w'=>Lg w' ⟨g,a3+q*8+5,V⟩=H (J ap z.Item.fH.length ax)) 42 (by kernel_rfl) (zb z5) (fun hH=>?_);have hdr:fF wr wr.drew:=(fF.refl _).drew;clear z5;generalize wr.drew=wx at hdr hH |-;have z5:=hH;refine .tk 0 [3,4,15,30,31,42] hH ?_;refine .tk 1 [2,3,4,15,30,31,42] hH ?_;refine .tk 2 [3,4,15,30,31,42] hH ?_;refine .tk 3 [4,15,30,31,42] hH ?_;refine .tk 4 [15,30,31,42] hH ?_;refine .tk 5 [7,8,9,10,11,13,14,15,30,31,42] hH ?_;refine .tk 6 [7,8,9,10,11,13,14,15,30,31,42] hH ?_;refine .tk 7 [8,9,10,11,13,14,15,30,31,42] hH ?_;refine .tk 8 [9,10,11,13,14,15,30,31,42] hH ?_;refine .tk 9 [10,11,13,14,15,30,31,42] hH ?_;refine .tk 10 [11,13,14,15,30,31,42] hH ?_;refine .tk 11 [13,14,15,30,31,42] hH ?_;refine .tk 12 [13,14,15,30,31,42] hH ?_;refine .tk 13 [14,15,30,31,42] hH ?_;exact rA
       ·have bK:¬ ((q:Int)<(xs.length:Int)):=by omega
        have HRB:Hid (oI p level x.Item.fH nm xs q=U):=fE (by unfold oI;rw[MZ (by omega)]);have cc:=za a2 CC.out;refine kC (fun w'=>Lg w' ⟨gc,oc+level,V⟩=H (F I cl)) 42 (by kernel_rfl) (zb cc) (fun hH=>?_);have hdr:fF wr wr.drew:=(fF.refl _).drew;clear cc;generalize wr.drew=wx at hdr hH |-;have cc:=hH;refine .tk 0 [3,4,15,30,31,42] hH ?_;refine .tk 1 [2,3,4,15,30,31,42] hH ?_;refine .tk 2 [3,4,15,30,31,42] hH ?_;refine .tk 3 [4,15,30,31,42] hH ?_;refine .tk 4 [15,30,31,42] hH ?_;refine .sk 5 [7,8,9,10,11,13,14,15,30,31,42] hH ?_;refine .sk 6 [7,8,9,10,11,13,14,15,30,31,42] hH ?_;refine .sk 7 [8,9,10,11,13,14,15,30,31,42] hH ?_;refine .sk 8 [9,10,11,13,14,15,30,31,42] hH ?_;refine .sk 9 [10,11,13,14,15,30,31,42] hH ?_;refine .sk 10 [11,13,14,15,30,31,42] hH ?_;refine .sk 11 [13,14,15,30,31,42] hH ?_;refine .sk 12 [13,14,15,30,31,42] hH ?_;refine .sk 13 [14,15,30,31,42] hH ?_;exact rA
      case rest=>
       obtain⟨rfl,bl⟩:=hcut;have aJ:=fE (ai.out.trans bl);obtain⟨rb,b4⟩:∃ b,oI p level x.Item.fH nm xs q=b:=⟨_,rfl⟩
       rw[b4];have HRB:=fE b4;clear b4 bl;cases rb with
       | true=>
        obtain⟨z,ao,bz⟩:=Ji HRB.out;have b8:=(Lh.1 ao).1;have bN:Ll I ((q:Int)+1)=(q:Int)+1:=iw;have bB:=fE (ah.out.next (show xs[k+1+j]?=H z from by rw[<-av.out];exact ao) bz);clear ao bz;go_wp2_with(fail);go_roundw;exact⟨q+1,j+1,by go_num,by omega,by omega,fE (by have:=av.out;omega),aJ,bB⟩;exact gL
       | false=>
        obtain⟨q1,bs⟩:∃ q1,q=q1+1:=⟨q-1,by omega⟩
        have aZ:q1<xs.length:=by omega
        have bJ:(q1:Int)<(xs.length:Int):=by omega
        have bN:Ll I ((q:Int)-1)=(q1:Int):=by rw[show (q:Int)-1=(q1:Int) by omega];exact iw
        obtain⟨g',al,y,ap,ax,ag,_,b7,y0,y1,y2,y3,y4,y5,y6,y7,_⟩:=l2 hx aZ;injection ag with ag
        injection ag with hBB1 hBB2
        obtain rfl:g=g':=hBB1;obtain rfl:a3=al:=hBB2;have bv:=uV aq.out b7;have bW:=qU y.Item.Op.Code;have bP:fV (y.Offset+zA y.Item.Op.Code):=⟨by omega,by omega⟩
        have bv:0<=y.Offset/\y.Offset<=1000000000:=⟨by omega,by omega⟩
        have HD:=fE (ju.done (by rw[ar.out];exact ah.out) HXK.out hlv (show xs[k+j]?=H y from by rw[show k+j=q1 from by have:=av.out;omega];exact b7) (fun u hu=>by rw[ar.out];exact Ks HRB.out (by rw[av.out];exact hu)))
        have bo:acc.length+1<=100000000:=by
         have h:=MY List.length hA.out;rw[HD.out] at h;simp only[Lj,LJ] at h;have h2:=bg.out;omega
        have a1:=bc.out.trans aJ.out;have bd:=fE a1;have bA:=fE (bf.out.fO aJ.out);have aV:g<wc.heap.size:=Li bH a1.size;have aA:gc<wc.heap.size:=Li az a1.size;have x0:=za a1 bC.out;have cc:=za a1 CC.out;have y0:=za a1 y0;have y1:=za a1 y1;have y2:=za a1 y2;have y3:=za a1 y3;have y4:=za a1 y4;have y5:=za a1 y5;have y6:=za a1 y6;have y7:=za a1 y7;have bR:=fE bs;clear b7 a1 ai bs;go_upto_region 24 with(fail);go_region_held3 (fun w'=>Lg w' ⟨g,a3+k*8,V⟩=H (F I x.Offset)/\Lg w' ⟨gc,oc+level,V⟩=H (F I cl)/\Lg w' ⟨g,a3+q1*8,V⟩=H (F I y.Offset)/\Lg w' ⟨g,a3+q1*8+1,V⟩=H (F I y.Item.Op.Code)/\Lg w' ⟨g,a3+q1*8+2,V⟩=H (F I y.Item.Op.Arg)/\Lg w' ⟨g,a3+q1*8+3,V⟩=H (F I y.Item.fN)/\Lg w' ⟨g,a3+q1*8+4,V⟩=H (X y.Item.Start)/\Lg w' ⟨g,a3+q1*8+5,V⟩=H (J ap y.Item.fH.length ax)/\Lg w' ⟨g,a3+q1*8+6,V⟩=H (F I y.Item.fK)/\Lg w' ⟨g,a3+q1*8+7,V⟩=H (X y.Item.fI)) ((repeat' apply Ls) <;> (first | ((repeat (first | assumption | with_reducible refine zC ?_ _ _ | with_reducible refine zo ?_ _ | with_reducible refine zb ?_));done) | (simp[go_sem];done))) (first | (go_at_call 117;(with_reducible refine(zlW (x:=y) bv).mono ?_);rintro e v1 ⟨rfl,a0⟩;have aw:=fE (show fF wc v1 from fF.trans (b:=_) gF a0);have x0:=za a0 x0;have cc:=za a0 cc;have y0:=za a0 y0;have y1:=za a0 y1;have y2:=za a0 y2;have y3:=za a0 y3;have y4:=za a0 y4;have y5:=za a0 y5;have y6:=za a0 y6;have y7:=za a0 y7;have a5:g<v1.heap.size:=Li aV aw.out.size;have aC:gc<v1.heap.size:=Li aA aw.out.size) | (refine zO (L:=acc.length+1) rfl (.tmp 110) (.tmp 129) BA Ba ((bA.out.fO aw.out).fO gF) (W1:=w) (B:=0) (ec:=[F I x.Offset,F I (y.Offset+zA y.Item.Op.Code),F I level,F I cl,G nm]) (y:=rm p level x y) (Bq ba.out ar.out b0 bP ⟨by omega,by omega⟩ aR (AV hnm _ _)) rfl rfl rfl (by intro j u hu;simpa[go_sem] using hu) rfl (by omega) (by omega) ?_;intro A8 c8 W8 S8 aa bE bF;have x0:=(aa.cell (g:=g) (Li a5 (fF.size gF)) ad _).trans (za gF x0);have cc:=(aa.cell (g:=gc) (Li aC (fF.size gF)) aT _).trans (za gF cc);have y0:=(aa.cell (g:=g) (Li a5 (fF.size gF)) ad _).trans (za gF y0);have y1:=(aa.cell (g:=g) (Li a5 (fF.size gF)) ad _).trans (za gF y1);have y2:=(aa.cell (g:=g) (Li a5 (fF.size gF)) ad _).trans (za gF y2);have y3:=(aa.cell (g:=g) (Li a5 (fF.size gF)) ad _).trans (za gF y3);have y4:=(aa.cell (g:=g) (Li a5 (fF.size gF)) ad _).trans (za gF y4);have y5:=(aa.cell (g:=g) (Li a5 (fF.size gF)) ad _).trans (za gF y5);have y6:=(aa.cell (g:=g) (Li a5 (fF.size gF)) ad _).trans (za gF y6);have y7:=(aa.cell (g:=g) (Li a5 (fF.size gF)) ad _).trans (za gF y7)))
        all_goals go_wp2_with(fail)
        all_goals go_roundw
        exact⟨q,acc++[rm p level x y],A8,c8,S8,by rw[Lj];rfl,rfl,by omega,fE (aa.fO ((bd.out.trans aw.out).trans gF) hS.out),fE (by rw[Lj];exact bE),fE (fun b hb=>(bF b hb).elim (hS.out b) (fun h=>LO (fF.size ((bd.out.trans aw.out).trans gF)) h)),fE (by rw[<-hA.out,HD.out,LZ,show k+1+j=q from av.out.symm];rfl)⟩;exact gL
     ·have aX:(x.Item.fH.length:Int)<=(level:Int):=by omega
      exact sz
    ·obtain rfl:k=xs.length:=by omega
     exact rZ
   ·obtain rfl:level=m:=by omega
    have bI:¬ ((level:Int)<(level:Int)):=by omega
    have HQ:Hid (ac=zS p xs):=fE (by rw[<-aN.out,Mq];simp);go_wp2_with(fail);exact Ln (v:=J aG ac.length aL) (by simp[Ly,results49,go_sem]) rfl (by rw[<-HQ.out];exact⟨aG,aL,S0,rfl,aP.out,aQ.out,aO.out⟩)
end Go.Proofs.YtiihkapmggfjkaaGreat
