/-
  PART.
-/
import Derived.Test.YthgbglbaemelhaaGreatM6LawSlices
set_option linter.unusedVariables false
set_option linter.unusedSimpArgs false
set_option maxRecDepth 100000
set_option maxHeartbeats 8000000
namespace Go.Proofs.YthgbglbaemelhaaGreat
open Value renaming slice->G,int->J,bool->H,string->V
open IntKind renaming i64->C,wrap->QP
open Option renaming none->D,some->Z
open Obj renaming cells->F
open Bool renaming false->I,true->M
open Go renaming World->U,Calls->Rh,Addr->Ri,yielded->Su
open World renaming cell?->QL
open List renaming length_cons->Rc,length_nil->Ru
open RowKit renaming intOf->Ry
open Region renaming wanted->Rx,ready->RL,noSelect->Tn,free->Ui
open Tryz
open Go.RowKit
variable {A0 A1 A2:X Ri}{c0 c1 c2:Nat}{i:gu}{w:U}
theorem Oq {syms:Q fC} {k:Nat} {x:fC} (hx:syms[k]?=Z x)(off:Int):mJ (syms.drop k) off k=if pW x off=M then (k:Int) else mJ (syms.drop (k+1)) off (k+1):=by
 obtain⟨h1,rfl⟩:=QM.1 hx;rw[Q6 h1];rfl
theorem rL {g:Prop} (f:g:=by
  clear hno hyes hb0 hb1
  go_wp2_with(go_at_call 43;(with_reducible refine(gY _ _ _ _).mono ?_);first | (rw[HB0.out];rintro e w1 ⟨rfl,rfl⟩) | (rw[HB1.out];rintro e w1 ⟨rfl,rfl⟩))
  go_roundw
  exact⟨j+1,by go_num,by omega,HE,fh gG⟩
  exact gH):g:=f
theorem zhn {off:Int} {A:X Ri} {c:Nat} (h1:(ji.sl 137).R w w.heap.size [G A i.fm.length c] i.fm)(ho:fD off) :
  Rh prog 83 #[.agg #[V i.Code,G A i.fm.length c],J C off] w fun r w'=>r=.returned (J C (mJ i.fm off 0))/\ft w w':=by
 obtain⟨_,_,a8,ac,a7⟩:=lu h1;injection a8 with e1 e2 e3
 subst e1 e3;clear e2;obtain⟨code,a0⟩:=i;simp only at h1 ac a7 |-;obtain⟨aj,ak⟩:=ho;go_enter func83,ntmps83;go_wp2_with(fail);have a1:ft w (w.alloc (F #[V code,G A a0.length c] 103)):=gG;have eb:=QO w (F #[V code,G A a0.length c] 103);have h2:=Ty.up _ h1 a1;obtain⟨g0,a2⟩:∃ g0,w.heap.size=g0:=⟨_,rfl⟩
 rw[a2] at eb |-;generalize w.alloc _=Y at a1 eb h2 |-;clear h1 a2;obtain⟨y0,y1,_,_,yl⟩:=kI eb;go_loopw [5] (fun x wr=>∃(j:Nat),x=J C j/\j<=a0.length/\Hid (mJ (a0.drop j) off j=mJ a0 off 0)/\Hid (ft Y wr)) (fun y _=>a0.length-(Ry y).toNat)
 case atStart=>exact⟨0,rfl,QX _,fh rfl,fh (ft.refl _)⟩
 case round=>
  obtain⟨j,rfl,hj,hE,hG⟩:=hrel;obtain⟨os,d,rfl⟩:=hG.out;clear hG;by_cases hlt:j<a0.length
  ·obtain⟨g,ad,x,rfl,ah,a3,a9,aa,ab,ae,af,ag⟩:=qm h2 hlt
   have hF:=Oq a3 off;rw[hE.out] at hF;have a4:=zd a9 os d;have a5:=zd aa os d;have a6:=zd ab os d;have z0:=zd y0 os d;have z1:=zd y1 os d;have ai:(j:Int)<(a0.length:Int):=by omega
   clear hE a3;obtain⟨nm,st,sz⟩:=x;simp only at hF a4 a5 a6;have hno:pW ⟨nm,st,sz⟩ off=I->mJ (a0.drop (j+1)) off (j+1)=mJ a0 off 0:=fun h=>by rw[hF,h];rfl
   have hyes:pW ⟨nm,st,sz⟩ off=M->mJ a0 off 0=(j:Int):=fun h=>by rw[hF,h];rfl
   clear hF;obtain⟨b0,hb0⟩:∃ b,fT st 0 1000000=b:=⟨_,rfl⟩
   obtain⟨b1,hb1⟩:∃ b,fT sz 0 1000000=b:=⟨_,rfl⟩
   have HB0:=fh hb0;have HB1:=fh hb1;cases b0 with
   | false=>
    have HE:=fh (hno (by simp[pW,hb0]));clear hno hyes hb0 hb1;go_wp2_with(go_at_call 43;(with_reducible refine(gY _ _ _ _).mono ?_);rw[HB0.out];rintro e w1 ⟨rfl,rfl⟩);go_roundw;exact⟨j+1,by go_num,by omega,HE,fh gG⟩;exact gH
   | true=>
    cases b1 with
    | false=>
     have HE:=fh (hno (by simp[pW,hb1]));exact rL
    | true=>
     have r0:=zu.1 hb0;have r1:=zu.1 hb1;have w1:QP C (st+sz)=st+sz:=iw;by_cases q2:st<=off
     case neg=>
      have s2:decide (st<=off)=I:=QT q2;have HE:=fh (hno (by simp[pW,q2]));exact rL
     have s2:decide (st<=off)=M:=QY q2;by_cases q3:off<st+sz
     case neg=>
      have s3:decide (off<st+sz)=I:=QT q3;have HE:=fh (hno (by simp[pW,q3]));exact rL
     have s3:decide (off<st+sz)=M:=QY q3;have HE:=fh (hyes (by simp[pW,q2,q3,hb0,hb1]));clear hno hyes hb0 hb1;go_wp2_with(go_at_call 43;(with_reducible refine(gY _ _ _ _).mono ?_);first | (rw[HB0.out];rintro e w1 ⟨rfl,rfl⟩) | (rw[HB1.out];rintro e w1 ⟨rfl,rfl⟩));go_ret;exact⟨nN HE.out.symm,a1.trans gF⟩
  ·obtain rfl:j=a0.length:=by omega
   have HQ:=fh (show mJ a0 off 0 = -1 from by rw[<-hE.out,Rq];rfl);have z0:=zd y0 os d;have z1:=zd y1 os d;clear hE;go_wp2_with(fail);go_ret;exact⟨nN HQ.out.symm,a1.trans gF⟩
theorem xJ {j:gu} {a b:Int} {es:Q Int} {e:Int} (h0:(iL.sl 103).R w w.heap.size [G A0 2 c0] [i,j])(h1:(zr.sl 3).R w w.heap.size [G A1 2 c1] [a,b])
  (hi:i.Code.size<=1099511627776) (hj:j.Code.size<=1099511627776) (ha:fT a 1 1000000=M) (hb:fT b 1 1000000=M) (he:fD e) :
  Rh prog 82 #[.agg #[G A0 2 c0,G A1 2 c1,G A2 es.length c2],J C e] w (AW (jy [i,j] [a,b] e 0) w):=
 zup (imgs:=[i,j]) (bases:=[a,b]) h0 h1 rfl (fun x hx=>by
  simp only[Rp,RO,SH] at hx;rcases hx with rfl | rfl
  ·exact hi
  ·exact hj) (fun x hx=>by
  simp only[Rp,RO,SH] at hx;rcases hx with rfl | rfl
  ·exact ha
  ·exact hb) he
theorem tQ {g:Prop} (f:g:=by
  go_wp2_with(fail)
  go_region_held3 (fun w'=>QL w' ⟨g0,0,D⟩=Z (G (Z ⟨gi,oi,D⟩) 2 c0)/\QL w' ⟨g0,1,D⟩=Z (G (Z ⟨gb,ob,D⟩) 2 c1)/\QL w' ⟨g0,2,D⟩=Z (G (Z ⟨ge,oe,D⟩) es.length c2)/\QL w' ⟨ge,oe+k,D⟩=Z (J C e)) ((repeat' apply QQ) <;> (first | ((repeat (first | assumption | with_reducible refine zd ?_ _ _ | with_reducible refine zk ?_ _ | with_reducible refine zc ?_));done) | (simp[go_sem];done))) (first
   | (go_at_call 82;(with_reducible refine(xJ (i:=i) (j:=j) (a:=a) (b:=b) (es:=es) (e:=e) (Ty.up _ m0 gG) (Ty.up _ m1 gG) hci hcj HA.out HB.out he64).mono ?_);rw[HL.out];rintro e w1 ⟨rfl,os1,d1,rfl⟩))
  go_wp2_with(go_at_call 83;(with_reducible refine(zhn (i:=j) (Ty.up _ bj1 gG) ho64).mono ?_);rw[HN.out];rintro e w2 ⟨rfl,os2,d2,rfl⟩)
  go_ret
  exact⟨zo HF.out.symm,hGc.trans gF⟩):g:=f
theorem tR {g:Prop} (f:g:=by
  go_wp2_with(fail)
  go_region_held3 (fun w'=>QL w' ⟨g0,0,D⟩=Z (G (Z ⟨gi,oi,D⟩) 2 c0)/\QL w' ⟨g0,1,D⟩=Z (G (Z ⟨gb,ob,D⟩) 2 c1)/\QL w' ⟨g0,2,D⟩=Z (G (Z ⟨ge,oe,D⟩) es.length c2)/\QL w' ⟨ge,oe+k,D⟩=Z (J C e)) ((repeat' apply QQ) <;> (first | ((repeat (first | assumption | with_reducible refine zd ?_ _ _ | with_reducible refine zk ?_ _ | with_reducible refine zc ?_));done) | (simp[go_sem];done))) (first
   | (go_at_call 82;(with_reducible refine(xJ (i:=i) (j:=j) (a:=a) (b:=b) (es:=es) (e:=e) (Ty.up _ m0 gG) (Ty.up _ m1 gG) hci hcj HA.out HB.out he64).mono ?_);rw[HL.out];rintro e w1 ⟨rfl,os1,d1,rfl⟩))
  go_wp2_with(go_at_call 83;(with_reducible refine(zhn (i:=i) (Ty.up _ bi1 gG) ho64).mono ?_);rw[HN.out];rintro e w2 ⟨rfl,os2,d2,rfl⟩)
  go_ret
  exact⟨zo HF.out.symm,hGc.trans gF⟩):g:=f
theorem zbU {s:gv} (h0:(iL.sl 103).R w w.heap.size [G A0 s.fq.length c0] s.fq)(h1:(zr.sl 3).R w w.heap.size [G A1 s.fu.length c1] s.fu)
  (h2:(zr.sl 3).R w w.heap.size [G A2 s.Entries.length c2] s.Entries) (hs:jP s<=1099511627776) :
  Rh prog 41 #[.agg #[G A0 s.fq.length c0,G A1 s.fu.length c1,G A2 s.Entries.length c2]] w fun r w'=>r=.returned (H (zU s))/\ft w w':=by
 by_cases hi:s.fq.length=2
 case neg=>
  have HQ:=fh (FN hi);have p1:((s.fq.length:Int) != 2)=M:=by simp;omega
  clear hi;go_enter func41,ntmps41;go_wp2_with(fail);go_ret;exact⟨zo HQ.out.symm,gG⟩
 by_cases hj:s.fu.length=2
 case neg=>
  have HQ:=fh (FK hj);have p1:((s.fq.length:Int) != 2)=I:=by simp;omega
  have p2:((s.fu.length:Int) != 2)=M:=by simp;omega
  clear hi hj;go_enter func41,ntmps41;go_wp2_with(fail);go_ret;exact⟨zo HQ.out.symm,gG⟩
 cases he:fT s.Entries.length 1 6 with
 | false=>
  have HQ:=fh (FM he);have HE:=fh he;have p1:((s.fq.length:Int) != 2)=I:=by simp;omega
  have p2:((s.fu.length:Int) != 2)=I:=by simp;omega
  clear hi hj he;go_enter func41,ntmps41;go_wp2_with(go_at_call 43;(with_reducible refine(gY _ _ _ _).mono ?_);rw[HE.out];rintro e w1 ⟨rfl,rfl⟩);go_ret;exact⟨zo HQ.out.symm,gG⟩
 | true=>
 obtain⟨aR,az,es⟩:=s;simp only at h0 h1 h2 hi hj he hs |-;have HE:=fh he;have b2:=zu.1 he;obtain⟨i,j,rfl⟩:=AP hi;obtain⟨a,b,rfl⟩:=AP hj;have HS:=fh (@FO i j a b es);rw[he] at HS;clear hi hj he;obtain⟨_,_,aO,b4,b5⟩:=lu h2;injection aO with e1 e2 e3
 subst e1 e3;clear e2;have ag:lV i+lV j+2+2+es.length<=1099511627776:=by simp[jP,lH] at hs;omega
 have hci:i.Code.size<=1099511627776:=by unfold lV at ag;omega
 have hcj:j.Code.size<=1099511627776:=by unfold lV at ag;omega
 have ar:i.fm.length<=1099511627776:=by unfold lV at ag;have:=ye sJ i.fm;omega
 have au:j.fm.length<=1099511627776:=by unfold lV at ag;have:=ye sJ j.fm;omega
 clear ag hs;simp only[Rc,Ru] at h0 h1 |-;go_enter func41,ntmps41;go_wp2_with(go_at_call 43;(with_reducible refine(gY _ _ _ _).mono ?_);rw[HE.out];rintro e w1 ⟨rfl,rfl⟩);have a9:ft w (w.alloc (F #[G A0 2 c0,G A1 2 c1,G A2 es.length c2] 28)):=gG;have eb:=QO w (F #[G A0 2 c0,G A1 2 c1,G A2 es.length c2] 28);have k0:=Ty.up _ h0 a9;have k1:=Ty.up _ h1 a9;have k2:=Ty.up _ h2 a9;obtain⟨g0,aD⟩:∃ g0,w.heap.size=g0:=⟨_,rfl⟩
 rw[aD] at eb |-;generalize w.alloc _=Y at a9 eb k0 k1 k2 |-;clear h0 h1 h2 aD;obtain⟨y0,y1,y2,_,yl⟩:=se eb;obtain⟨gi,oi,Ai,ci,Aj,cj,rfl,aL,i0,i1,j0,j1,aY,aZ,bi1,bj1⟩:=F1 k0;obtain⟨gb,ob,rfl,b0,b1,⟨aU,aV⟩,⟨aW,aX⟩⟩:=GA k1;have aK:=RE _ _ b0;simp only at aK;go_loopw [3] (fun x wr=>((x=J C 0)∨(x=J C 1/\jr i=M/\fT a 1 1000000=M)∨(x=J C 2/\jr i=M/\fT a 1 1000000=M/\jr j=M/\fT b 1 1000000=M))/\Hid (ft Y wr)) (fun x _=>2-(Ry x).toNat)
 case atStart=>exact⟨.inl rfl,fh (ft.refl _)⟩
 case round=>
  obtain⟨ad,hG⟩:=hrel;obtain⟨os,d,rfl⟩:=hG.out;clear hG;rcases ad with rfl | ⟨rfl,af,ac⟩ | ⟨rfl,af,ac,aq,ah⟩
  ·have d0:=zd i0 os d
   have d1:=zd i1 os d;have d2:=zd b0 os d;have z0:=zd y0 os d;have z1:=zd y1 os d;obtain⟨ik,hk⟩:∃ ik,jr i=ik:=⟨_,rfl⟩
   cases ik with
   | false=>
    have HK:=fh hk;have HQ:=fh (show zU ⟨[i,j],[a,b],es⟩=I from by rw[HS.out,hk];simp);clear hk;go_wp2_with(go_at_call 81;(with_reducible refine(zeL (i:=i) (Ty.up _ bi1 gG) hci ar).mono ?_);rw[HK.out];rintro e w1 ⟨rfl,os1,d1,rfl⟩);go_ret;exact⟨zo HQ.out.symm,a9.trans gF⟩
   | true=>
    obtain⟨bk,hb⟩:∃ bk,fT a 1 1000000=bk:=⟨_,rfl⟩
    cases bk with
    | false=>
     have HK:=fh hk;have HB:=fh hb;have HQ:=fh (show zU ⟨[i,j],[a,b],es⟩=I from by rw[HS.out,hb];simp);clear hk hb
     go_wp2_with(first
      | (go_at_call 81;(with_reducible refine(zeL (i:=i) (Ty.up _ bi1 gG) hci ar).mono ?_);rw[HK.out];rintro e w1 ⟨rfl,os1,d1,rfl⟩)
      | (go_at_call 43;(with_reducible refine(gY _ _ _ _).mono ?_);rw[HB.out];rintro e w1 ⟨rfl,rfl⟩))
     go_ret;exact⟨zo HQ.out.symm,a9.trans gF⟩
    | true=>
     have HK:=fh hk;have HB:=fh hb;clear hk hb
     go_wp2_with(first
      | (go_at_call 81;(with_reducible refine(zeL (i:=i) (Ty.up _ bi1 gG) hci ar).mono ?_);rw[HK.out];rintro e w1 ⟨rfl,os1,d1,rfl⟩)
      | (go_at_call 43;(with_reducible refine(gY _ _ _ _).mono ?_);rw[HB.out];rintro e w1 ⟨rfl,rfl⟩))
     go_roundw;exact⟨.inr (.inl ⟨rfl,HK.out,HB.out⟩),fh gG⟩;exact gH
  ·have d0:=zd j0 os d
   have d1:=zd j1 os d;have d2:=zd b1 os d;have z0:=zd y0 os d;have z1:=zd y1 os d;obtain⟨ik,hk⟩:∃ ik,jr j=ik:=⟨_,rfl⟩
   cases ik with
   | false=>
    have HK:=fh hk;have HQ:=fh (show zU ⟨[i,j],[a,b],es⟩=I from by rw[HS.out,hk];simp);clear hk;go_wp2_with(go_at_call 81;(with_reducible refine(zeL (i:=j) (Ty.up _ bj1 gG) hcj au).mono ?_);rw[HK.out];rintro e w1 ⟨rfl,os1,d1,rfl⟩);go_ret;exact⟨zo HQ.out.symm,a9.trans gF⟩
   | true=>
    obtain⟨bk,hb⟩:∃ bk,fT b 1 1000000=bk:=⟨_,rfl⟩
    cases bk with
    | false=>
     have HK:=fh hk;have HB:=fh hb;have HQ:=fh (show zU ⟨[i,j],[a,b],es⟩=I from by rw[HS.out,hb];simp);clear hk hb
     go_wp2_with(first
      | (go_at_call 81;(with_reducible refine(zeL (i:=j) (Ty.up _ bj1 gG) hcj au).mono ?_);rw[HK.out];rintro e w1 ⟨rfl,os1,d1,rfl⟩)
      | (go_at_call 43;(with_reducible refine(gY _ _ _ _).mono ?_);rw[HB.out];rintro e w1 ⟨rfl,rfl⟩))
     go_ret;exact⟨zo HQ.out.symm,a9.trans gF⟩
    | true=>
     have HK:=fh hk;have HB:=fh hb;clear hk hb
     go_wp2_with(first
      | (go_at_call 81;(with_reducible refine(zeL (i:=j) (Ty.up _ bj1 gG) hcj au).mono ?_);rw[HK.out];rintro e w1 ⟨rfl,os1,d1,rfl⟩)
      | (go_at_call 43;(with_reducible refine(gY _ _ _ _).mono ?_);rw[HB.out];rintro e w1 ⟨rfl,rfl⟩))
     go_roundw;exact⟨.inr (.inr ⟨rfl,af,ac,HK.out,HB.out⟩),fh gG⟩;exact gH
  ·have aw:=zd i0 os d
   have ax:=zd j0 os d;have aj:=zd b0 os d;have ak:=zd b1 os d;have z0:=zd y0 os d;have z1:=zd y1 os d;have z2:=zd y2 os d;have ra:=zu.1 ac;have rb:=zu.1 ah;have ay:zU ⟨[i,j],[a,b],es⟩=(!pa i j a b && es.all (kG ⟨[i,j],[a,b],es⟩)):=by rw[HS.out,af,ac,aq,ah];simp
   have HS3:=fh ay;clear ay HS;have HI:=fh af;have HJ:=fh aq;have HA:=fh ac;have HB:=fh ah;clear af ac aq ah;have a8:ft Y (fx Y os d):=gG;generalize fx Y os d=QJ at a8 |-;clear aw ax aj ak z0 z1 z2;have aw:=jY a8 i0;have ax:=jY a8 j0;have aj:=jY a8 b0;have ak:=jY a8 b1;have z0:=jY a8 y0;have z1:=jY a8 y1;have z2:=jY a8 y2;have w1:QP C (b+(j.Code.size:Int))=b+(j.Code.size:Int):=iw;have w2:QP C (a+(i.Code.size:Int))=a+(i.Code.size:Int):=iw;go_upto_region 10 with fail;go_cut [90] from 59 to 90 (fun r wx=>r=H (pa i j a b)/\Hid (ft QJ wx))
   case first=>
    exact yB
   case rest=>
    obtain⟨rfl,aA⟩:=hcut;have a4:ft Y wc:=a8.trans aA.out;have hGc:ft w wc:=a9.trans a4;clear aw ax aj ak z0 z1 z2 a8 aA;obtain⟨vb,hv⟩:∃ vb,pa i j a b=vb:=⟨_,rfl⟩
    rw[hv];cases vb with
    | true=>
     exact uY
    | false=>
     have HQ:=fh (show zU ⟨[i,j],[a,b],es⟩=es.all (kG ⟨[i,j],[a,b],es⟩) from by rw[HS3.out,hv];rfl);have z0:=jY a4 y0;have z1:=jY a4 y1;have z2:=jY a4 y2;have zl:g0<wc.heap.size:=QS yl a4.size;have m0:=Ty.up _ k0 a4;have m1:=Ty.up _ k1 a4;have m2:=Ty.up _ k2 a4
     have aE:=fh (show ¬ (0<i.Code.size/\0<j.Code.size/\a<b+j.Code.size/\b<a+i.Code.size) from fun h=>by
      unfold pa at hv;rw[QY h.1,QY h.2.1,QY h.2.2.1,QY h.2.2.2] at hv
      cases hv)
     clear hv HS3 w1 w2;go_wp2_with(fail);have ai:=fh (fun e=>PM (es:=es) HI.out HJ.out (zu.1 HA.out).1 (zu.1 HB.out).1 (show ¬ (0<i.Code.size/\0<j.Code.size/\a<b+j.Code.size/\b<a+i.Code.size) from aE.out) e);have b6:=jY a4 i0;have b7:=jY a4 i1;have b8:=jY a4 j0;have b9:=jY a4 j1;have aM:gi<wc.heap.size:=QS aL a4.size;go_loopw [6] (fun x wr=>∃ k:Nat,x=J C k/\k<=es.length/\Hid ((es.drop k).all (kG ⟨[i,j],[a,b],es⟩)=es.all (kG ⟨[i,j],[a,b],es⟩))/\Hid (ft wc wr)) (fun x _=>es.length-(Ry x).toNat)
     case atStart=>exact⟨0,rfl,QX _,fh rfl,fh (ft.refl _)⟩
     case round=>
      obtain⟨k,rfl,hk,hE,hG⟩:=hrel;obtain⟨os,d,rfl⟩:=hG.out;clear hG;by_cases hlt:k<es.length
      ·obtain⟨ge,oe,e,rfl,aC,aB,aF,aG⟩:=lI m2 hlt
       have ha:=AY aC (kG ⟨[i,j],[a,b],es⟩);rw[hE.out] at ha;have hc:=zd aB os d;have am:=RE _ _ aB;simp only at am;have ba:=zd z0 os d;have bb:=zd z1 os d;have aT:=zd z2 os d;have b3:(k:Int)<(es.length:Int):=by omega
       have he64:fD e:=⟨aF,aG⟩
       clear aC hE;have a6:kG ⟨[i,j],[a,b],es⟩ e=I->zU ⟨[i,j],[a,b],es⟩=I:=fun h=>by rw[HQ.out,ha,h];rfl
       have a2:kG ⟨[i,j],[a,b],es⟩ e=M->(es.drop (k+1)).all (kG ⟨[i,j],[a,b],es⟩)=es.all (kG ⟨[i,j],[a,b],es⟩):=fun h=>by rw[ha,h];rfl
       rw[<-ai.out e] at a6 a2;clear ha
       have a0:(jy [i,j] [a,b] e 0=(0,e-a)/\a<=e/\e<a+i.Code.size)∨(jy [i,j] [a,b] e 0=(1,e-b)/\b<=e/\e<b+j.Code.size)∨jy [i,j] [a,b] e 0=(-1,-1):=by
        simp only[jy];split
        ·rename_i h;exact .inl ⟨rfl,h.1,h.2⟩
        ·split
         ·rename_i h;exact .inr (.inl ⟨rfl,h.1,h.2⟩)
         ·exact .inr (.inr rfl)
       rcases a0 with⟨a0,q1,q2⟩ | ⟨a0,q1,q2⟩ | a0
       ·have HL:=fh a0
        obtain⟨a5,a1⟩:∃ a5,e-a=a5:=⟨_,rfl⟩
        have ho64:fD a5:=⟨by omega,by omega⟩
        have a3:=Fu i.fm a5 0;rcases a3 with a3 | ⟨m,y,a3,aa,_⟩
        ·have HF:=fh (a6 (by simp[qh,loc,a0,a1,a3];split <;> rfl))
         have HN:=fh a3;rw[a1] at HL;clear a6 a2 a0 a3 a1;exact tR
        ·rw[Rk] at a3
         have ap:m<i.fm.length:=(QM.1 aa).1;obtain⟨gs,aS,y',al,ae,ab,aP,av,aQ,aH,aI,aJ⟩:=qm bi1 ap;subst al;obtain rfl:y'=y:=by rw[ab] at aa;exact Option.some.inj aa
         have a7:qh ⟨[i,j],[a,b],es⟩ e=decide (y'.Start=a5):=by simp[qh,loc,a0,a1,a3,ab]
         rw[a7] at a6 a2;have HN:=fh a3;rw[a1] at HL;have aN:(m:Int)<(i.fm.length:Int):=by omega
         have v1:=jY a4 av;have ao:gs<wc.heap.size:=QS ae a4.size;have an:=ae;clear a0 a3 a1 ab aa a7;by_cases q3:y'.Start=a5
         ·have HF:=fh (a2 (QY q3))
          have p3:(y'.Start != a5)=I:=by simp[q3]
          have p4:decide ((m:Int)<0)=I:=QT (by omega);clear a6 a2 q3;go_wp2_with(fail)
          go_region_held3 (fun w'=>QL w' ⟨g0,0,D⟩=Z (G (Z ⟨gi,oi,D⟩) 2 c0)/\QL w' ⟨g0,1,D⟩=Z (G (Z ⟨gb,ob,D⟩) 2 c1)/\QL w' ⟨g0,2,D⟩=Z (G (Z ⟨ge,oe,D⟩) es.length c2)/\QL w' ⟨ge,oe+k,D⟩=Z (J C e)) ((repeat' apply QQ) <;> (first | ((repeat (first | assumption | with_reducible refine zd ?_ _ _ | with_reducible refine zk ?_ _ | with_reducible refine zc ?_));done) | (simp[go_sem];done))) (first
           | (go_at_call 82;(with_reducible refine(xJ (i:=i) (j:=j) (a:=a) (b:=b) (es:=es) (e:=e) (Ty.up _ m0 gG) (Ty.up _ m1 gG) hci hcj HA.out HB.out he64).mono ?_);rw[HL.out];rintro e w1 ⟨rfl,os1,d1,rfl⟩))
          go_wp2_with(go_at_call 83;(with_reducible refine(zhn (i:=i) (Ty.up _ bi1 gG) ho64).mono ?_);rw[HN.out];rintro e w2 ⟨rfl,os2,d2,rfl⟩);go_roundw;exact⟨k+1,by go_num,by omega,HF,fh gG⟩;exact gH
         ·have HF:=fh (a6 (QT q3))
          have p3:(y'.Start != a5)=M:=by simp[q3]
          have p4:decide ((m:Int)<0)=I:=QT (by omega);clear a6 a2 q3;exact tR
       ·have HL:=fh a0
        obtain⟨a5,a1⟩:∃ a5,e-b=a5:=⟨_,rfl⟩
        have ho64:fD a5:=⟨by omega,by omega⟩
        have a3:=Fu j.fm a5 0;rcases a3 with a3 | ⟨m,y,a3,aa,_⟩
        ·have HF:=fh (a6 (by simp[qh,loc,a0,a1,a3];split <;> rfl))
         have HN:=fh a3;rw[a1] at HL;clear a6 a2 a0 a3 a1;exact tQ
        ·rw[Rk] at a3
         have ap:m<j.fm.length:=(QM.1 aa).1;obtain⟨gs,aS,y',al,ae,ab,aP,av,aQ,aH,aI,aJ⟩:=qm bj1 ap;subst al;obtain rfl:y'=y:=by rw[ab] at aa;exact Option.some.inj aa
         have a7:qh ⟨[i,j],[a,b],es⟩ e=decide (y'.Start=a5):=by simp[qh,loc,a0,a1,a3,ab]
         rw[a7] at a6 a2;have HN:=fh a3;rw[a1] at HL;have aN:(m:Int)<(j.fm.length:Int):=by omega
         have v1:=jY a4 av;have ao:gs<wc.heap.size:=QS ae a4.size;have an:=ae;clear a0 a3 a1 ab aa a7;by_cases q3:y'.Start=a5
         ·have HF:=fh (a2 (QY q3))
          have p3:(y'.Start != a5)=I:=by simp[q3]
          have p4:decide ((m:Int)<0)=I:=QT (by omega);clear a6 a2 q3;go_wp2_with(fail)
          go_region_held3 (fun w'=>QL w' ⟨g0,0,D⟩=Z (G (Z ⟨gi,oi,D⟩) 2 c0)/\QL w' ⟨g0,1,D⟩=Z (G (Z ⟨gb,ob,D⟩) 2 c1)/\QL w' ⟨g0,2,D⟩=Z (G (Z ⟨ge,oe,D⟩) es.length c2)/\QL w' ⟨ge,oe+k,D⟩=Z (J C e)) ((repeat' apply QQ) <;> (first | ((repeat (first | assumption | with_reducible refine zd ?_ _ _ | with_reducible refine zk ?_ _ | with_reducible refine zc ?_));done) | (simp[go_sem];done))) (first
           | (go_at_call 82;(with_reducible refine(xJ (i:=i) (j:=j) (a:=a) (b:=b) (es:=es) (e:=e) (Ty.up _ m0 gG) (Ty.up _ m1 gG) hci hcj HA.out HB.out he64).mono ?_);rw[HL.out];rintro e w1 ⟨rfl,os1,d1,rfl⟩))
          go_wp2_with(go_at_call 83;(with_reducible refine(zhn (i:=j) (Ty.up _ bj1 gG) ho64).mono ?_);rw[HN.out];rintro e w2 ⟨rfl,os2,d2,rfl⟩);go_roundw;exact⟨k+1,by go_num,by omega,HF,fh gG⟩;exact gH
         ·have HF:=fh (a6 (QT q3))
          have p3:(y'.Start != a5)=M:=by simp[q3]
          have p4:decide ((m:Int)<0)=I:=QT (by omega);clear a6 a2 q3;exact tQ
       ·have HL:=fh a0
        have HF:=fh (a6 (by simp[qh,loc,a0]));clear a6 a2 a0;go_wp2_with(fail)
        go_region_held3 (fun w'=>QL w' ⟨g0,0,D⟩=Z (G (Z ⟨gi,oi,D⟩) 2 c0)/\QL w' ⟨g0,1,D⟩=Z (G (Z ⟨gb,ob,D⟩) 2 c1)/\QL w' ⟨g0,2,D⟩=Z (G (Z ⟨ge,oe,D⟩) es.length c2)/\QL w' ⟨ge,oe+k,D⟩=Z (J C e)) ((repeat' apply QQ) <;> (first | ((repeat (first | assumption | with_reducible refine zd ?_ _ _ | with_reducible refine zk ?_ _ | with_reducible refine zc ?_));done) | (simp[go_sem];done))) (first
         | (go_at_call 82;(with_reducible refine(xJ (i:=i) (j:=j) (a:=a) (b:=b) (es:=es) (e:=e) (Ty.up _ m0 gG) (Ty.up _ m1 gG) hci hcj HA.out HB.out he64).mono ?_);rw[HL.out];rintro e w1 ⟨rfl,os1,d1,rfl⟩))
        go_wp2_with(fail);go_ret;exact⟨zo HF.out.symm,hGc.trans gF⟩
      ·obtain rfl:k=es.length:=by omega
       have aT:=zd z2 os d;exact uN
end Go.Proofs.YthgbglbaemelhaaGreat
