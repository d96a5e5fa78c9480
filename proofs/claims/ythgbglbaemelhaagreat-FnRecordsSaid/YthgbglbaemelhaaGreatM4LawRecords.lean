/-
  PART.
-/
import Derived.Test.YthgbglbaemelhaaGreatM3LawRecords
import Derived.Deep.Cut
import Derived.Deep.RegionLaw
import Derived.Deep.LoopGhost
set_option linter.unusedVariables false
set_option linter.unusedSimpArgs false
set_option maxRecDepth 100000
set_option maxHeartbeats 8000000
namespace Go.Proofs.YthgbglbaemelhaaGreat
open Value renaming slice->J,int->C,bool->X,string->Q
open IntKind renaming i64->Z,wrap->Vl
open Option renaming none->I,some->F,getD_some->WM
open Obj renaming cells->U
open Bool renaming false->M,true->H
open Go renaming World->V,results->VF,Calls->VK,Addr->VQ,TypeId->Wl,yielded->Xb,undef->Yd,Ending->Z9
open World renaming cell?->Vg,frozen?->VE
open _root_.Int renaming toNat_natCast->Vy
open List renaming length_cons->VC,length_nil->VZ
open Region renaming wanted->V6,ready->Wv,noSelect->XV,Mode->XY,free->YI
open RowKit renaming intOf->Wj,wrap64->Xr
open _root_.Nat renaming add_zero->Wk
open BitVec renaming ofInt->XP
open Tryz
open Go.RowKit
variable {A:N VQ}{P:Program}{a last:Int}{all rs:D gL}{c i j k m:Nat}{ops:Array Oper}{q x:gL}{r:iF}{t:iq}{w:V}{xs:D iq}
def oD (s:G):Nat->Int
 | 0=>7
 | k+1=>(oD s k*257+kU s k+1) % 1000000007
theorem LM (s:G):∀ k,0<=oD s k/\oD s k<=1000000006
 | 0=>⟨by show (0:Int)<=7;omega,by show (7:Int)<=1000000006;omega⟩
 | k+1=>⟨by unfold oD;omega,by unfold oD;omega⟩
theorem zis {i:ii} (hs:i.Code.size<=1099511627776):VK prog 125 #[.agg #[Q i.Code,J A i.fq.length c]] w fun r w'=>r=.returned (C Z (oD i.Code i.Code.size))/\fy w w':=by
 have a2:fy w (w.alloc (U #[Q i.Code,J A i.fq.length c] 103)):=gG;have eb:=Vj w (U #[Q i.Code,J A i.fq.length c] 103);obtain⟨g,hg⟩:∃ g,w.heap.size=g:=⟨_,rfl⟩
 go_enter func125,ntmps125;go_wp2;rw[hg] at eb;generalize w.alloc _=Y at a2 eb |-;obtain⟨y0,y1,a8,a9,yl⟩:=mI eb;obtain⟨s,a0⟩:∃ s,i.Code=s:=⟨_,rfl⟩
 rw[a0] at y0 hs |-;have a3:=fk a0;clear a0 eb;go_loopw [3,4] (fun a b wr=>∃ k:Nat,a=C Z (oD s k)/\b=C Z k/\k<=s.size/\wr=Y) (fun _ b _=>s.size-(Wj b).toNat)
 case atStart=>exact⟨0,rfl,rfl,Vu _,rfl⟩
 case round=>
  obtain⟨k,rfl,rfl,hk,rfl⟩:=hrel;by_cases hlt:k<s.size
  ·have hb:=BC hlt
   have a7:0<=(s[k].toNat:Int)/\(s[k].toNat:Int)<=255:=by have:=s[k].toNat_lt;omega
   have a4:=LM s k;obtain⟨u,hu⟩:∃ u,oD s k=u:=⟨_,rfl⟩
   have hv:(u*257+(s[k].toNat:Int)+1) % 1000000007=oD s (k+1):=by rw[oD,hb,hu]
   have a6:(u*257+(s[k].toNat:Int)+1).tmod 1000000007=oD s (k+1):=by rw[Y9 fh,hv]
   rw[hu] at a4 |-;obtain⟨v,a1⟩:∃ v,oD s (k+1)=v:=⟨_,rfl⟩
   rw[a1] at hv a6;have HV:=fk a1;clear hu hb a1;have a5:(k:Int)<(s.size:Int):=fh;go_wp2_with(fail);go_roundw;exact⟨k+1,by rw[HV.out],io,fh,trivial⟩;exact iC
  ·obtain rfl:k=s.size:=fh
   have a5:¬ ((s.size:Int)<(s.size:Int)):=fh;go_wp2_with(fail);go_ret;exact⟨nB (by rw[a3.out]),a2⟩
def sP (i:ii)(d:iB):Bool:=decide (d.Id=oD i.Code i.Code.size) && decide (i.fq=d.fq)
theorem uc {g:Prop} (f:g:=by
  go_wp2_with(fail)
  go_quiet (fail)
  go_wp2_with(fail)
  go_ret
  refine⟨zp ?_,hG0.trans gG⟩
  rw[HF2.out]
  symm
  simp only[WA]
  intro h8
  have h9:=HX.out.symm.trans ((WY (fun l=>l[k]?) h8).trans HY.out)
  simp at h9
  exact HXY.out h9):g:=f
theorem zkY {i:ii} {d:iB} {B0 B1 B2 B3:N VQ} {e0 e1 e2 e3:Nat} (hx:(kr.sl 137).R w w.heap.size [J A i.fq.length c] i.fq)(hy:(kr.sl 137).R w w.heap.size [J B0 d.fq.length e0] d.fq)(hs:i.Code.size<=1099511627776) :
  VK prog 94 #[.agg #[Q i.Code,J A i.fq.length c],.agg #[C Z d.Id,J B0 d.fq.length e0,J B1 d.gY.length e1,J B2 d.gz.length e2,J B3 d.gk.length e3]] w fun r w'=>r=.returned (X (sP i d))/\fy w w':=by
 have hG0:fy w ((w.alloc (U #[Q i.Code,J A i.fq.length c] 103)).alloc (U #[C Z d.Id,J B0 d.fq.length e0,J B1 d.gY.length e1,J B2 d.gz.length e2,J B3 d.gk.length e3] 108)):=gG;have eb:((w.alloc (U #[Q i.Code,J A i.fq.length c] 103)).alloc (U #[C Z d.Id,J B0 d.fq.length e0,J B1 d.gY.length e1,J B2 d.gz.length e2,J B3 d.gk.length e3] 108)).heap[w.heap.size]?=F (U #[Q i.Code,J A i.fq.length c] 103 (0,0)):=zj (Vj w _) gF
 have ed:((w.alloc (U #[Q i.Code,J A i.fq.length c] 103)).alloc (U #[C Z d.Id,J B0 d.fq.length e0,J B1 d.gY.length e1,J B2 d.gz.length e2,J B3 d.gk.length e3] 108)).heap[w.heap.size+1]?=F (U #[C Z d.Id,J B0 d.fq.length e0,J B1 d.gY.length e1,J B2 d.gz.length e2,J B3 d.gk.length e3] 108 (0,0)):=by
  have h:=Vj (w.alloc (U #[Q i.Code,J A i.fq.length c] 103)) (U #[C Z d.Id,J B0 d.fq.length e0,J B1 d.gY.length e1,J B2 d.gz.length e2,J B3 d.gk.length e3] 108);rw[VH] at h;exact h
 have kx:=Ty.up _ hx hG0;have ky:=Ty.up _ hy hG0;obtain⟨g,hg⟩:∃ g,w.heap.size=g:=⟨_,rfl⟩
 obtain⟨u,hu⟩:∃ u,oD i.Code i.Code.size=u:=⟨_,rfl⟩
 have HU:=fk hu;have HF:=fk (show sP i d=(decide (d.Id=u) && decide (i.fq=d.fq)) from by unfold sP;rw[hu]);clear hu;go_enter func94,ntmps94;go_upto_region 1 with(fail);rw[hg] at eb ed;generalize ((w.alloc _).alloc _)=Y at hG0 eb ed kx ky |-;clear hx hy;have au:d.fq.length<=9223372036854775807:=by obtain⟨A9,c9,h1,h2,h3⟩:=mQ ky;omega
 obtain⟨y0,y1,av,aw,yl⟩:=mI eb;obtain⟨z0,z1,z2,z3,z4,zf,zl⟩:=jO ed;by_cases hid:d.Id=u
 ·have hq:(d.Id != u)=M:=by simp[hid]
  have a1:decide (d.Id=u)=H:=by simp[hid]
  have HF2:=fk (show sP i d=decide (i.fq=d.fq) from by rw[HF.out,a1,XX]);clear hid a1;by_cases hl:d.fq.length=i.fq.length
  ·have ag:((d.fq.length:Int) != (i.fq.length:Int))=M:=by simp[hl]
   have HL:=fk hl;clear hl
   go_region_held3 (fun w'=>Vg w' ⟨g,0,I⟩=F (Q i.Code)/\Vg w' ⟨g,1,I⟩=F (J A i.fq.length c)/\Vg w' ⟨g+1,0,I⟩=F (C Z d.Id)/\Vg w' ⟨g+1,1,I⟩=F (J B0 d.fq.length e0)) ((repeat' apply Vm) <;> (first | ((repeat (first | assumption | with_reducible refine zd ?_ _ _ | with_reducible refine zq ?_ _ | with_reducible refine zc ?_));done) | (simp[go_sem];done))) (first
    | (go_at_call 125;refine(zis (i:=i) hs).mono ?_;rw[HU.out];rintro e w1 ⟨rfl,aa,d1,rfl⟩))
   go_wp2_with(fail);go_loopw [5] (fun a wr=>∃ k:Nat,k<=d.fq.length/\a=C Z k/\Hid (fy Y wr)/\Hid (i.fq.take k=d.fq.take k)) (fun a _=>d.fq.length-(Wj a).toNat)
   case atStart=>exact⟨0,Vu _,rfl,fk gG,fk gm⟩
   case round=>
    obtain⟨k,hk,rfl,hG,HT⟩:=hrel;obtain⟨os,dd,rfl⟩:=hG.out;clear hG;have z0:=zd z0 os dd;have z1:=zd z1 os dd;have y0:=zd y0 os dd;have y1:=zd y1 os dd;by_cases hlt:k<d.fq.length
    ·have a0:k<i.fq.length:=by rw[<-HL.out];exact hlt
     obtain⟨gx,aj,x,rfl,ar,a5,a2,a3,a4,al,am,an⟩:=sC kx a0;obtain⟨gy,ak,y,rfl,ad,a9,a6,a7,a8,ao,ap,aq⟩:=sC ky hlt;have HX:=fk a5;have HY:=fk a9;clear a5 a9 kx ky;have ae:(k:Int)<(d.fq.length:Int):=fh;have af:(k:Int)<(i.fq.length:Int):=fh;have q0:=zd a2 os dd;have q1:=zd a3 os dd;have q2:=zd a4 os dd;have r0:=zd a6 os dd;have r1:=zd a7 os dd;have r2:=zd a8 os dd;clear a2 a3 a4 a6 a7 a8;by_cases hs':y.fJ=x.fJ
     ·have ah:(y.fJ.toList == x.fJ.toList)=H:=by rw[mb];simp[hs']
      by_cases hc:y.fA=x.fA
      ·have ac:(y.fA == x.fA)=H:=by simp[hc]
       by_cases hz:y.iG=x.iG
       ·have ai:(y.iG == x.iG)=H:=by simp[hz]
        have HXY:=fk (show x=y from by cases x;cases y;simp only at hs' hc hz;rw[hs',hc,hz]);clear hs' hc hz;go_wp2_with(fail);go_quiet (fail);go_wp2_with(fail);go_roundw;exact⟨k+1,fh,io,fk gG,fk (by rw[yB HX.out,yB HY.out,HT.out,HXY.out])⟩;exact iC
       ·have ai:(y.iG == x.iG)=M:=by simp[hz]
        have HXY:=fk (show x≠y from by rintro rfl;exact hz rfl);clear hs' hc hz;exact uc
      ·have ac:(y.fA == x.fA)=M:=by simp[hc]
       have HXY:=fk (show x≠y from by rintro rfl;exact hc rfl);clear hs' hc;exact uc
     ·have ah:(y.fJ.toList == x.fJ.toList)=M:=by rw[mb];simp[hs']
      have HXY:=fk (show x≠y from by rintro rfl;exact hs' rfl);clear hs';exact uc
    ·have ae:¬ ((k:Int)<(d.fq.length:Int)):=fh
     go_wp2_with(fail);go_ret;refine⟨zp ?_,hG0.trans gG⟩;have:k=d.fq.length:=fh;subst this;have h1:=HT.out;rw[HL.out] at h1;simp only[WG] at h1;rw[<-HL.out] at h1;simp at h1;rw[HF2.out];simp[h1]
  ·have ag:((d.fq.length:Int) != (i.fq.length:Int))=H:=by simp;omega
   have ab:=fk (show sP i d=M from by rw[HF2.out];simp only[WA];intro h;exact hl (WY List.length h).symm);clear hl
   go_region_held3 (fun w'=>Vg w' ⟨g,0,I⟩=F (Q i.Code)/\Vg w' ⟨g,1,I⟩=F (J A i.fq.length c)/\Vg w' ⟨g+1,0,I⟩=F (C Z d.Id)/\Vg w' ⟨g+1,1,I⟩=F (J B0 d.fq.length e0)) ((repeat' apply Vm) <;> (first | ((repeat (first | assumption | with_reducible refine zd ?_ _ _ | with_reducible refine zq ?_ _ | with_reducible refine zc ?_));done) | (simp[go_sem];done))) (first
    | (go_at_call 125;refine(zis (i:=i) hs).mono ?_;rw[HU.out];rintro e w1 ⟨rfl,aa,d1,rfl⟩))
   go_wp2_with(fail);go_ret;exact⟨zp ab.out.symm,hG0.trans gG⟩
 ·have hq:(d.Id != u)=H:=by simp[hid]
  have HF2:=fk (show sP i d=M from by rw[HF.out];simp[hid]);clear hid
  first | (go_region_law (first | (go_simp;go_at_call 125;refine(zis (i:=i) hs).mono ?_;rw[HU.out];rintro e w1 ⟨rfl,aa,d1,rfl⟩))) | fail
  all_goals
   go_wp2_with(fail)
   go_ret
   exact⟨zp HF2.out.symm,hG0.trans gG⟩
theorem fL.skip {Vc:Exit->Act->V->Prop} {md:XY} {S:V->Prop} {oi:Oper} {cs:D Nat} {f:Nat} {listed:Array Bool} {a:Act} (hi:ops[i]?=F oi)(hsel:XV ops=H)(hf:YI md ops listed i=H)(hr:(Wv md ops listed).contains i=H)
  (hlk:sO md ops m i cs=H) (hne:cs.isEmpty=M) (hun:vB listed cs=H) (hQ:∀ c a w,Vc (.panic c) (a.put oi.dst Yd) w->Vc (.panic c) a w) (hS:S w)
  (hw:V6 oi (Xb ops a.tmps)=M)
  (h:fL P md ops Vc S m f (listed.setIfInBounds i H) (a.put oi.dst Yd) w):fL P md ops Vc S m (f+1) listed a w:=
 fL.first hi hsel hlk (by cases cs <;> simp at hne |-) hQ f listed a w (Region.free_spec hi hf) (fun c hc=>by
  simp only[vB,Xm,Yr] at hun
  exact hun c hc) (by simpa using hr) (.inr ⟨hw,rfl⟩) hS h
theorem fL.sk {Vc:Exit->Act->V->Prop} {md:XY} {S:V->Prop} (i:Nat)(cs:D Nat){oi:Oper}{f:Nat}{listed:Array Bool}{a a2:Act}{w:V}(hS:S w)(h:fL P md ops Vc S m f (listed.setIfInBounds i H) a2 w)
  (hi:ops[i]?=F oi:=by exact rfl) (hsel:XV ops=H:=by kernel_rfl) (hf:YI md ops listed i=H:=by kernel_rfl) (hr:(Wv md ops listed).contains i=H:=by kernel_rfl) (hlk:sO md ops m i cs=H:=by kernel_rfl) (hne:cs.isEmpty=M:=by exact rfl) (hun:vB listed cs=H:=by kernel_rfl)
  (hQ:∀ c a w,Vc (.panic c) (a.put oi.dst Yd) w->Vc (.panic c) a w:=by exact fun _ _ _ h=>h) (hw:V6 oi (Xb ops a.tmps)=M:=by kernel_rfl) (ha:a.put oi.dst Yd=a2:=by(try simp only[lay]) <;> exact rfl):fL P md ops Vc S m (f+1) listed a w:=
 fL.skip hi hsel hf hr hlk hne hun hQ hS hw (ha ▸ h)
theorem fL.sq {Vc:Exit->Act->V->Prop} {md:XY} {S:V->Prop} (i:Nat)(cs:D Nat){oi:Oper}{f:Nat}{listed:Array Bool}{a a2:Act}{w:V}(hS:S w)(h:fL P md ops Vc S m f (listed.setIfInBounds i H) a2 w)
  (hi:ops[i]?=F oi:=by exact rfl) (hsel:XV ops=H:=by kernel_rfl) (hf:YI md ops listed i=H:=by kernel_rfl) (hr:(Wv md ops listed).contains i=H:=by kernel_rfl) (hlk:sO md ops m i cs=H:=by kernel_rfl) (hne:cs.isEmpty=M:=by exact rfl) (hun:vB listed cs=H:=by kernel_rfl)
  (hQ:∀ c a w,Vc (.panic c) (a.put oi.dst Yd) w->Vc (.panic c) a w:=by exact fun _ _ _ h=>h) (hw:V6 oi (Xb ops a.tmps)=M:=by first | rfl | kernel_rfl) (ha:a.put oi.dst Yd=a2:=by(try simp only[lay]) <;> exact rfl):fL P md ops Vc S m (f+1) listed a w:=
 fL.skip hi hsel hf hr hlk hne hun hQ hS hw (ha ▸ h)
theorem za {a b:V} (h:fy a b){p:VQ}{v:Value}(hp:a.cell? p=F v):b.cell? p=F v:=by
 obtain⟨os,d,rfl⟩:=h;exact zd hp os d
theorem jF {W:V} {g:Nat} {o0 o1 o2 o3:Value} {e:Wl} (h:W.heap[g]?=F (U #[o0,o1,o2,o3] e (0,0))) :
  Vg W ⟨g,0,I⟩=F o0/\Vg W ⟨g,1,I⟩=F o1/\Vg W ⟨g,2,I⟩=F o2/\Vg W ⟨g,3,I⟩=F o3/\(∀ j,VE W ⟨g,j,I⟩=M)/\g<W.heap.size:=by
 refine⟨?_,?_,?_,?_,fun j=>by simp[VE,h],(blt h)⟩
 all_goals
  rw[WC W g _ _ _ (0,0) h]
  rfl
def rA (a:jT):Bool:=ke a.fo && decide (a.gX.length=2) && (match a.fo.fw,a.gX with
 | [i0,i1],[d0,d1]=>sP i0 d0 && sP i1 d1
 | _,_=>M)
theorem LY {α:Type} {xs:D α} {x y:α} (h:xs.length=2)(h0:xs[0]?=F x)(h1:xs[1]?=F y):xs = [x,y]:=by
 match xs,h with
 | [p,q],_=>
  simp at h0 h1;rw[h0,h1]
theorem Oo {a:jT} {i0 i1:ii} {d0 d1:iB} (hq:ke a.fo=H)(hd:a.gX.length=2)(hi0:a.fo.fw[0]?=F i0)(hi1:a.fo.fw[1]?=F i1)(hd0:a.gX[0]?=F d0)(hd1:a.gX[1]?=F d1) :
  rA a=(sP i0 d0 && sP i1 d1):=by
 have h1:a.fo.fw.length=2:=by
  have h:=hq;simp only[ke,Vt,VD] at h;omega
 unfold rA;rw[hq,LY h1 hi0 hi1,LY hd hd0 hd1];simp
theorem xm {g:Prop} (f:g:=by
  go_wp2_with(go_at_call 41;refine(zcj (s:=a.fo) z0 z1 z2 hs).mono ?_;rw[HQ.out];rintro e v0 ⟨rfl,hg0⟩;have y0:=za hg0 y0;have y1:=za hg0 y1;have y2:=za hg0 y2;have y3:=za hg0 y3)
  go_ret
  exact⟨zp (by rw[HR.out]),hG0.trans hg0⟩):g:=f
theorem zur {a:jT} {A0 A1 A2 A3:N VQ} {c0 c1 c2 c3:Nat} (h0:(jS.sl 103).R w w.heap.size [J A0 a.fo.fw.length c0] a.fo.fw)(h1:(zv.sl 3).R w w.heap.size [J A1 a.fo.fD.length c1] a.fo.fD)
  (h2:(zv.sl 3).R w w.heap.size [J A2 a.fo.fm.length c2] a.fo.fm) (h3:(og.sl 108).R w w.heap.size [J A3 a.gX.length c3] a.gX) (hs:my a.fo<=1099511627776) :
  VK prog 56 #[.agg #[J A0 a.fo.fw.length c0,J A1 a.fo.fD.length c1,J A2 a.fo.fm.length c2,J A3 a.gX.length c3]] w fun r w'=>r=.returned (X (rA a))/\fy w w':=by
 have hG0:fy w (w.alloc (U #[J A0 a.fo.fw.length c0,J A1 a.fo.fD.length c1,J A2 a.fo.fm.length c2,J A3 a.gX.length c3] 31)):=gG;have eb:=Vj w (U #[J A0 a.fo.fw.length c0,J A1 a.fo.fD.length c1,J A2 a.fo.fm.length c2,J A3 a.gX.length c3] 31);have z0:=Ty.up _ h0 hG0;have z1:=Ty.up _ h1 hG0;have z2:=Ty.up _ h2 hG0;have z3:=Ty.up _ h3 hG0;obtain⟨g,hg⟩:∃ g,w.heap.size=g:=⟨_,rfl⟩
 obtain⟨q,hq⟩:∃ q,ke a.fo=q:=⟨_,rfl⟩
 have HQ:=fk hq;go_enter func56,ntmps56;go_upto_region 1 with(fail);rw[hg] at eb;generalize w.alloc _=Y at hG0 eb z0 z1 z2 z3 |-;clear h0 h1 h2 h3;obtain⟨y0,y1,y2,y3,yf,yl⟩:=jF eb;cases q with
 | false=>
  have HR:=fk (show rA a=M from by unfold rA;rw[hq];rfl);clear hq;exact xm
 | true=>
  by_cases hd2n:a.gX.length=2
  case neg=>
   have HR:=fk (show rA a=M from by unfold rA;rw[Vp hd2n];simp);have aX:((a.gX.length:Int) == 2)=M:=by simp;omega
   have aY:((a.gX.length:Int) != 2)=H:=by simp;omega
   clear hd2n hq;exact xm
  case pos=>
   obtain⟨aq,ar⟩:a.fo.fw.length=2/\∀ i∈a.fo.fw,i.Code.size<=1000000:=by
    have h1:=hq;simp only[ke,Vt,VD,Xm] at h1;refine⟨fh,fun i hi=>?_⟩;have h2:=h1.1.1.1.2 i hi;simp only[kI,Vt,VD] at h2;exact h2.1
   have aX:((a.gX.length:Int) == 2)=H:=by simp;omega
   have aY:((a.gX.length:Int) != 2)=M:=by simp;omega
   have b1:(0:Int)<(a.fo.fw.length:Int):=fh;have b2:(1:Int)<(a.fo.fw.length:Int):=fh;have b3:(0:Int)<(a.gX.length:Int):=fh;have b4:(1:Int)<(a.gX.length:Int):=fh;have b5:0<a.fo.fw.length:=fh;have b6:1<a.fo.fw.length:=fh;have b7:0<a.gX.length:=fh;have b8:1<a.gX.length:=fh;obtain⟨gi,oi,i0,C0,k0,ak,_,ao,a2,a3,_,aT⟩:=vh z0 (k:=0) fh;obtain⟨b0,ba,i1,C1,k1,ah,_,ap,a4,a5,_,aU⟩:=vh z0 (k:=1) fh;obtain⟨gd,od,d0,aD,aL,aE,aM,aF,aN,aG,aO,al,_,ay,a6,a7,a8,a9,aa,_,aV,_,_,_⟩:=K6 z3 (k:=0) fh;obtain⟨aZ,b9,d1,aH,aP,aI,aQ,aJ,aR,aK,aS,ai,_,az,ab,ac,ad,ae,af,_,aW,_,_,_⟩:=K6 z3 (k:=1) fh;rw[ak] at ah;injection ah with ah
   injection ah with q1 q2
   subst q1 q2;rw[al] at ai;injection ai with ai
   injection ai with q1 q2
   subst q1 q2;simp only[Y0,Wk,Ys,Yq,Nat.reduceAdd] at a2 a3 a4 a5 a6 a7 a8 a9 aa ab ac ad ae af;have au:i0.Code.size<=1099511627776:=by have:=ar i0 (Vx ao);omega
   have av:i1.Code.size<=1099511627776:=by have:=ar i1 (Vx ap);omega
   have aw:=fk (Oo hq hd2n ao ap ay az);obtain⟨f0,aB⟩:∃ b,sP i0 d0=b:=⟨_,rfl⟩
   have aj:=fk aB;obtain⟨f1,aC⟩:∃ b,sP i1 d1=b:=⟨_,rfl⟩
   have ax:=fk aC;rw[ak] at y0 z0;rw[al] at y3;clear hq ao ap ay az aB aC aq ar hd2n ak al;go_upto_region 3 with(go_at_call 41;refine(zcj (s:=a.fo) z0 z1 z2 hs).mono ?_;rw[HQ.out];rintro e v0 ⟨rfl,hg0⟩;have y0:=za hg0 y0;have y1:=za hg0 y1;have y2:=za hg0 y2;have y3:=za hg0 y3);have a2:=za hg0 a2;have a3:=za hg0 a3;have a6:=za hg0 a6;have a7:=za hg0 a7;have a8:=za hg0 a8;have a9:=za hg0 a9;have aa:=za hg0 aa;have a4:=za hg0 a4;have a5:=za hg0 a5;have ab:=za hg0 ab;have ac:=za hg0 ac;have ad:=za hg0 ad;have ae:=za hg0 ae;have af:=za hg0 af;refine lO (fun w'=>Vg w' ⟨g,0,I⟩=F (J (F ⟨gi,oi,I⟩) a.fo.fw.length c0)/\Vg w' ⟨g,1,I⟩=F (J A1 a.fo.fD.length c1)/\Vg w' ⟨g,2,I⟩=F (J A2 a.fo.fm.length c2)/\Vg w' ⟨g,3,I⟩=F (J (F ⟨gd,od,I⟩) a.gX.length c3)/\Vg w' ⟨gi,oi,I⟩=F (Q i0.Code)/\Vg w' ⟨gi,oi+1,I⟩=F (J C0 i0.fq.length k0)/\Vg w' ⟨gd,od,I⟩=F (C Z d0.Id)/\Vg w' ⟨gd,od+1,I⟩=F (J aD d0.fq.length aL)/\Vg w' ⟨gd,od+2,I⟩=F (J aE d0.gY.length aM)/\Vg w' ⟨gd,od+3,I⟩=F (J aF d0.gz.length aN)/\Vg w' ⟨gd,od+4,I⟩=F (J aG d0.gk.length aO)/\Vg w' ⟨gi,oi+2,I⟩=F (Q i1.Code)/\Vg w' ⟨gi,oi+3,I⟩=F (J C1 i1.fq.length k1)/\Vg w' ⟨gd,od+5,I⟩=F (C Z d1.Id)/\Vg w' ⟨gd,od+6,I⟩=F (J aH d1.fq.length aP)/\Vg w' ⟨gd,od+7,I⟩=F (J aI d1.gY.length aQ)/\Vg w' ⟨gd,od+8,I⟩=F (J aJ d1.gz.length aR)/\Vg w' ⟨gd,od+9,I⟩=F (J aK d1.gk.length aS)) 22 gU (Vm (zc y0) (Vm (zc y1) (Vm (zc y2) (Vm (zc y3) (Vm (zc a2) (Vm (zc a3) (Vm (zc a6) (Vm (zc a7) (Vm (zc a8) (Vm (zc a9) (Vm (zc aa) (Vm (zc a4) (Vm (zc a5) (Vm (zc ab) (Vm (zc ac) (Vm (zc ad) (Vm (zc ae) (zc af)))))))))))))))))) (fun hH=>?_);have aA:fy v0 v0.drew:=(fy.refl _).drew;clear y0 y1 y2 y3 a2 a3 a6 a7 a8 a9 aa a4 a5 ab ac ad ae af;generalize v0.drew=wx at aA hH |-;obtain⟨y0,y1,y2,y3,a2,a3,a6,a7,a8,a9,aa,a4,a5,ab,ac,ad,ae,af⟩:=id hH;have an:=hg0.trans aA;refine .tk 0 [22] hH ?_;refine .tk 1 [22] hH ?_;refine .tk 2 [22] hH ?_;refine .tk 3 [22] hH ?_;refine .tk 4 [22] hH ?_;refine .tk 5 [22] hH ?_;refine .tk 6 [22] hH ?_;refine .tk 7 [22] hH ?_;refine .tk 8 [22] hH ?_;refine fL.one (i:=9) gU rfl (fun K hK=>?_);go_simp;go_at_call 94;refine(zkY (i:=i0) (d:=d0) (Ty.up _ aT an) (Ty.up _ aV an) au).mono ?_;rw[aj.out];rintro e v1 ⟨rfl,a0⟩;have ag:=an.trans a0;have y0:=za a0 y0;have y1:=za a0 y1;have y2:=za a0 y2;have y3:=za a0 y3;have a2:=za a0 a2;have a3:=za a0 a3;have a6:=za a0 a6;have a7:=za a0 a7;have a8:=za a0 a8;have a9:=za a0 a9;have aa:=za a0 aa;have a4:=za a0 a4;have a5:=za a0 a5;have ab:=za a0 ab;have ac:=za a0 ac;have ad:=za a0 ad;have ae:=za a0 ae;have af:=za a0 af;refine hK.out _ _ (Vm y0 (Vm y1 (Vm y2 (Vm y3 (Vm a2 (Vm a3 (Vm a6 (Vm a7 (Vm a8 (Vm a9 (Vm aa (Vm a4 (Vm a5 (Vm ab (Vm ac (Vm ad (Vm ae af))))))))))))))))) (fun hI=>?_);clear hK hH;have hH:=hI
   try simp only[lay]
   refine .tk 10 [22] hH ?_;cases f0 with
   | false=>
    have HR:=fk (show rA a=M from by rw[aw.out,aj.out];rfl);refine .sk 11 [22] hH ?_;refine .sk 12 [22] hH ?_;refine .sk 13 [22] hH ?_;refine .sk 14 [22] hH ?_;refine .sk 15 [22] hH ?_;refine .sk 16 [22] hH ?_;refine .sk 17 [22] hH ?_;refine .sk 18 [22] hH ?_;refine .sk 19 [22] hH ?_;refine .sk 20 [22] hH ?_;refine .tk 21 [22] hH ?_;refine fL.last gU rfl gU (fun K hK=>?_);go_simp;refine hK.out _ _ ?_;clear hK
    try simp only[lay]
    go_wp2_with(fail);go_ret;exact⟨zp (by rw[HR.out]),hG0.trans ag⟩
   | true=>
    have HR:=fk (show rA a=f1 from by rw[aw.out,aj.out,ax.out];simp);refine .tk 11 [22] hH ?_;refine .tk 12 [22] hH ?_;refine .tk 13 [22] hH ?_;refine .tk 14 [22] hH ?_;refine .tk 15 [22] hH ?_;refine .tk 16 [22] hH ?_;refine .tk 17 [22] hH ?_;refine .tk 18 [22] hH ?_;refine .tk 19 [22] hH ?_;refine fL.one (i:=20) gU rfl (fun K hK=>?_);go_simp;go_at_call 94;refine(zkY (i:=i1) (d:=d1) (Ty.up _ aU ag) (Ty.up _ aW ag) av).mono ?_;rw[ax.out];rintro e v2 ⟨rfl,a1⟩;have am:=ag.trans a1;have y0:=za a1 y0;have y1:=za a1 y1;have y2:=za a1 y2;have y3:=za a1 y3;have a2:=za a1 a2;have a3:=za a1 a3;have a6:=za a1 a6;have a7:=za a1 a7;have a8:=za a1 a8;have a9:=za a1 a9;have aa:=za a1 aa;have a4:=za a1 a4;have a5:=za a1 a5;have ab:=za a1 ab;have ac:=za a1 ac;have ad:=za a1 ad;have ae:=za a1 ae;have af:=za a1 af;refine hK.out _ _ (Vm y0 (Vm y1 (Vm y2 (Vm y3 (Vm a2 (Vm a3 (Vm a6 (Vm a7 (Vm a8 (Vm a9 (Vm aa (Vm a4 (Vm a5 (Vm ab (Vm ac (Vm ad (Vm ae af))))))))))))))))) (fun hI=>?_);clear hK hH;have hH:=hI
    try simp only[lay]
    refine .tk 21 [22] hH ?_;refine fL.last gU rfl gU (fun K hK=>?_);go_simp;refine hK.out _ _ ?_;clear hK
    try simp only[lay]
    go_wp2_with(fail);go_ret;exact⟨zp (by rw[HR.out]),hG0.trans am⟩
theorem Lv (x:G):x.toList.isEmpty=decide (x=iK):=by
 have h:=mb x iK
 have he:iK.toList = []:=by
  unfold ByteArray.toList;rw[ByteArray.toList.loop];rfl
 rw[he] at h;rw[<-h];cases x.toList <;> rfl
theorem QK (h:gE t.fC 0 7=M):mR t=M:=by
 cases hq:mR t with
 | false=>rfl
 | true=>
  unfold mR at hq
  have:gE t.fC 0 7=H:=by
   rw[zr];split at hq
   ·omega
   ·split at hq
    ·omega
    ·split at hq
     ·omega
     ·rw[Vt,zr] at hq
      omega
  rw[h] at this;cases this
theorem Oc (h:a<0):ox xs a = -1:=by unfold ox;rw[Vs h]
theorem Ob (xs:D iq)(k:Nat):ox xs k=pW (xs.drop k) 1 k:=by unfold ox;rw[Vo fh,Vy]
theorem RK {x:iq} (h:xs[k]?=F x)(m:Nat):pW (xs.drop k) (m+1) k=if mR x=H then pW (xs.drop (k+1)) (m+(j9 x).toNat) (k+1) else -1:=by
 obtain⟨h1,rfl⟩:=Vh.1 h;rw[VB h1];rfl
theorem zlR (hs:t.fJ.size<=9223372036854775807):VK prog 206 #[.agg #[C Z t.fC,C Z t.iY,Q t.fJ]] w fun e w'=>e=.returned (X (mR t))/\fy w w':=by
 rcases Wm (gE t.fC 0 7) with hb | hb
 rotate_left
 ·have HB:=fk hb
  have HF:Hid (mR t=M):=fk (QK hb);clear hb;go_enter func206,ntmps206;go_wp2_with(go_at_call 43;refine(iU _ _ _ _).mono ?_;rw[HB.out];rintro e w1 ⟨rfl,rfl⟩);go_ret;exact⟨zp HF.out.symm,gG⟩
 have HK:Hid (¬ t.fC=0->¬ t.fC=1->¬ t.fC=7->gE t.fC 2 6=H):=fk (fun h0 h1 h7=>by rw[zr] at hb |-;omega);go_enter func206,ntmps206;go_wp2_with(first | (go_at_call 43;refine(iU _ _ _ _).mono ?_;rintro e w1 ⟨rfl,rfl⟩) | (go_at_call 133;refine(tg _ _ hs).mono ?_;rintro e w1 ⟨rfl,rfl⟩))
 all_goals
  go_ret
  refine⟨zp ?_,gG⟩
  have a0:=HK.out
  clear HK
  unfold mR
  simp_all [Lv]
theorem zpj (hs:t.fJ.size<=9223372036854775807):VK prog 207 #[.agg #[C Z t.fC,C Z t.iY,Q t.fJ]] w fun e w'=>e=.returned (C Z (j9 t))/\fy w w':=by
 cases hq:mR t with
 | false=>
  have HQ:=fk hq;have HF:Hid (j9 t = -1):=fk (by unfold j9;rw[hq];rfl);clear hq;go_enter func207,ntmps207;go_wp2_with(go_at_call 206;refine(zlR hs).mono ?_;rw[HQ.out];rintro e v1 ⟨rfl,hg⟩);go_ret;exact⟨nB HF.out.symm,fy.trans (b:=_) gF hg⟩
 | true=>
  have HQ:=fk hq;have HF:Hid (j9 t=if t.fC=7 then t.iY else if t.fC=0∨t.fC=1 then 0 else 2):=fk (by unfold j9;rw[Vs hq]);clear hq;go_enter func207,ntmps207;have eb:=Vj w (U #[C Z t.fC,C Z t.iY,Q t.fJ] 160);go_wp2_with(go_at_call 206;refine(zlR hs).mono ?_;rw[HQ.out];rintro e v1 ⟨rfl,hg⟩;have eb:=zj eb (fy.trans (b:=_) gF hg);obtain⟨b0,b1,b2,_⟩:=kL eb)
  all_goals
   go_ret
   refine⟨nB ?_,fy.trans (b:=_) gF (fy.trans hg gF)⟩
   rw[HF.out]
   simp_all
theorem zkw (hx:(jY.sl 160).R w w.heap.size [J A xs.length c] xs)(ha:fQ a)(hl:xs.length<=1099511627776) :
  VK prog 200 #[J A xs.length c,C Z a] w fun e w'=>e=.returned (C Z (ox xs a))/\fy w w':=by
 by_cases ha0:a<0
 ·have HF:Hid (ox xs a = -1):=fk (Oc ha0)
  go_enter func200,ntmps200;go_wp2_with(fail);exact Vr (v:=C Z (-1)) (by simp[VF,results200,go_sem]) rfl ⟨by rw[HF.out],gG⟩
 ·have a7:0<=a:=fh
  obtain⟨k0,a4⟩:∃ k0:Nat,a=(k0:Int):=⟨a.toNat,fh⟩
  subst a4;have a2:Hid (pW (xs.drop k0) 1 k0=ox xs k0):=fk (Ob xs k0).symm;go_enter func200,ntmps200;go_wp2_with(fail);go_loopw [5,1] (fun z q wr=>∃(nd k:Nat),z=C Z nd/\q=C Z k/\Hid (fy w wr)/\nd+4*(xs.length-k)<=4*xs.length+1/\(k:Int)<=9223372036854775807/\Hid (pW (xs.drop k) nd k=ox xs k0)) (fun _ q _=>xs.length-(Wj q).toNat)
  case atStart=>exact⟨1,k0,rfl,rfl,fk gG,fh,ha.2,a2⟩
  case round=>
   obtain⟨nd,k,rfl,rfl,hG,ab,a6,hE⟩:=hrel;by_cases hp:0<nd
   ·have ac:(0:Int)<(nd:Int):=fh
    obtain⟨m,rfl⟩:∃ m,nd=m+1:=⟨nd-1,fh⟩
    by_cases hlt:k<xs.length
    ·obtain⟨g,ah,x,hA,a9,a1,x0,x1,x2,bk,bn,bs⟩:=vZ hx hlt
     have aa:(k:Int)<(xs.length:Int):=fh;have a0:¬ ((xs.length:Int)<=(k:Int)):=fh;have a5:(0:Int)<=(k:Int):=fh;have x0:=za hG.out x0;have x1:=za hG.out x1;have x2:=za hG.out x2;have HA:=fk (RK a1 m);clear a1;subst hA;cases ht:mR x with
     | false=>
      have HT:=fk ht;have HF:Hid (ox xs k0 = -1):=fk (by rw[<-hE.out,HA.out,ht];rfl);clear ht;go_wp2_with(first | (go_at_call 206;refine(zlR (t:=x) bs).mono ?_;rw[HT.out];rintro e v1 ⟨rfl,hg⟩));exact Vr (v:=C Z (-1)) (by simp[VF,results200,go_sem]) rfl ⟨by rw[HF.out],hG.out.trans (fy.trans (b:=_) gF hg)⟩
     | true=>
      have HT:=fk ht;have a8:=Dg ht;have HB:Hid (pW (xs.drop (k+1)) (m+(j9 x).toNat) (k+1)=ox xs k0):=fk (by rw[<-hE.out,HA.out,Vs ht]);clear ht;have ad:Vl Z (j9 x-1)=j9 x-1:=iw;have ae:Vl Z (((m+1:Nat):Int)+(j9 x-1))=((m+(j9 x).toNat:Nat):Int):=by rw[show ((m+1:Nat):Int)+(j9 x-1)=((m+(j9 x).toNat:Nat):Int) from fh];exact iw
      have af:Vl Z (((m+1:Nat):Int)-1)=((m+1:Nat):Int)-1:=iw;have ag:Vl Z (((m+1:Nat):Int)-1+j9 x)=((m+(j9 x).toNat:Nat):Int):=by rw[show ((m+1:Nat):Int)-1+j9 x=((m+(j9 x).toNat:Nat):Int) from fh];exact iw
      go_wp2_with(first | (go_at_call 206;refine(zlR (t:=x) bs).mono ?_;rw[HT.out];rintro e v1 ⟨rfl,hg⟩;have x0:=za (fy.trans (b:=_) gF hg) x0;have x1:=za (fy.trans (b:=_) gF hg) x1;have x2:=za (fy.trans (b:=_) gF hg) x2) | (go_at_call 207;refine(zpj (t:=x) bs).mono ?_;rintro e v2 ⟨rfl,a3⟩));go_roundw;exact⟨m+(j9 x).toNat,k+1,io,io,fk (hG.out.trans ((fy.trans (b:=_) gF hg).trans ((fy.trans (b:=_) gF a3).trans gF))),fh,fh,HB⟩;exact iC
    ·have a0:((xs.length:Int)<=(k:Int)):=fh
     have HF:Hid (ox xs k0 = -1):=fk (by rw[<-hE.out,XG fh];rfl);go_wp2_with(fail);exact Vr (v:=C Z (-1)) (by simp[VF,results200,go_sem]) rfl ⟨by rw[HF.out],hG.out.trans gG⟩
   ·obtain rfl:nd=0:=fh
    have HF:Hid (ox xs k0=k):=fk (by rw[<-hE.out];cases xs.drop k <;> rfl);go_wp2_with(fail);exact Vr (v:=C Z (k:Int)) (by simp[VF,results200,go_sem]) rfl ⟨by rw[HF.out],hG.out.trans gG⟩
theorem xJ {g:Prop} (f:g:=by
  go_enter func189,ntmps189
  go_wp2_with(fail)
  exact Vr (v:=X M) (by simp[VF,results189,go_sem]) rfl ⟨by rw[HF.out],gG⟩):g:=f
theorem zmq (hx:(jY.sl 160).R w w.heap.size [J A xs.length c] xs)(hl:xs.length<=1099511627776) :
  VK prog 189 #[J A xs.length c] w fun e w'=>e=.returned (X (rH xs))/\fy w w':=by
 have a2:fQ 0:=⟨fh,fh⟩
 have HD:Hid (rH xs=(decide (0<xs.length) && (decide (xs.length<=20) && decide (ox xs 0=xs.length)))):=fk rfl;by_cases h0:0<xs.length
 ·have a1:(0:Int)<(xs.length:Int):=fh
  by_cases h20:xs.length<=20
  ·have a0:(xs.length:Int)<=20:=fh
   obtain⟨q,hq⟩:∃ q,ox xs 0=q:=⟨_,rfl⟩
   have HF:Hid (rH xs=(q == (xs.length:Int))):=fk (by rw[HD.out,hq];simp only[h0,h20,decide_true,XX];by_cases hh:q=(xs.length:Int) <;> simp[hh]);have HQ:=fk hq;clear hq;go_enter func189,ntmps189;go_wp2_with(first | (go_at_call 200;refine(zkw (a:=0) (Ty.up _ hx gF) a2 hl).mono ?_;rw[HQ.out];rintro e v1 ⟨rfl,hg⟩));refine Vr (v:=X (q == (xs.length:Int))) (by simp[VF,results189,go_sem]) rfl ⟨by rw[HF.out],fy.trans (b:=_) gF (hg.trans gF)⟩
  ·have a0:¬ ((xs.length:Int)<=20):=fh
   have HF:Hid (rH xs=M):=fk (by rw[HD.out];simp[h20]);exact xJ
 ·have a1:¬ ((0:Int)<(xs.length:Int)):=fh
  have a0:(xs.length:Int)<=20:=fh;have HF:Hid (rH xs=M):=fk (by rw[HD.out];simp[h0]);exact xJ
theorem me:iZ prog 26 3 zv 8:=by
 obtain⟨i0,hi,a0,a1,a2⟩:=Xt EP;exact⟨underlying26,⟨i0,_,hi,a0,a1,a2,rfl⟩,gv⟩
def mm (xs:D Int)(w:V)(r:Z9)(w':V):Prop:=∃ A c S,r=.returned (J A xs.length c)/\Has (zv.sl 3) w' [J A xs.length c] xs S/\(∀ b∈S,w.heap.size<=b)/\fy w w'
theorem mm.mk {xs ys:D Int} {w':V} {n:Nat} {S:D Nat} (h:Has (zv.sl 3) w' [J A n c] ys S)(he:ys=xs)(hn:n=ys.length)(hS:∀ b∈S,w.heap.size<=b)(hg:fy w w'):mm xs w (.returned (J A n c)) w':=by
 subst he hn;exact⟨A,c,S,rfl,h,hS,hg⟩
theorem tS {g:Prop} (f:g:=by
  have h:=WY List.length hd1
  rw[Vk,ks.ie,WL] at h
  omega):g:=f
theorem zsX {a:Nat} {ks:ig} {rs:D iq} (hx:(jY.sl 160).R w w.heap.size [J A xs.length c] xs)(hl:xs.length<=1099511627776)(hw:(Ex.node t ks).wf)(hd:xs.drop a=(Ex.node t ks).flat++rs) :
  VK prog 216 #[J A xs.length c,C Z a] w (mm (ks.iL (a+1)) w):=by
 obtain⟨aa,hd1⟩:=Aw (show xs.drop a=t::(ks.flat++rs) from hd);have ap:a<xs.length:=(Vh.1 aa).1;obtain⟨g,aH,x,hA,aq,a6,x0,x1,x2,bk,bn,bs⟩:=vZ hx ap;obtain rfl:x=t:=by rw[aa] at a6;injection a6 with a6;exact a6.symm
 clear aa a6
 have aF:ks.size<=xs.length:=by
  exact tS
 have aB:=ks.lW;obtain⟨en,ad⟩:∃ en:Int,en=((a+(Ex.node x ks).size:Nat):Int):=⟨_,rfl⟩
 have HE:Hid (ox xs (a:Int)=en):=fk (by rw[ad];exact ED hw hd);have a9:fQ (a:Int):=⟨fh,fh⟩
 have ax:¬ (en<0):=fh;have ag:Hid (j9 x=(ks.len:Int)):=fk hw.2.1;have ak:=fk hw.2.2;have ay:(a:Int)<(xs.length:Int):=fh;have ao:(0:Int)<=(a:Int):=fh;have az:Vl Z ((a:Int)+1)=(a:Int)+1:=iw;have ah:=fk hd1;have a0:=fy.refl w;clear hd hd1 hw ad;subst hA;go_enter func216,ntmps216;go_wp2_with(first | (go_at_call 200;refine(zkw (xs:=xs) (a:=(a:Int)) (Ty.up _ hx gF) a9 hl).mono ?_;rw[HE.out];rintro e v1 ⟨rfl,hg⟩;have a0:=a0.trans (fy.trans (b:=_) gF hg);have aA:=Vn aq a0.size;have x0:=za a0 x0;have x1:=za a0 x1;have x2:=za a0 x2) | (go_at_call 207;refine(zpj (t:=x) bs).mono ?_;rw[ag.out];rintro e v2 ⟨rfl,ae⟩));have ab:fy w v2:=a0.trans (fy.trans (b:=_) gF ae);have aG:=a0.size;go_loopw [5,6,7] (fun z q j wr=>∃(nx:Nat) (ys:D Int) (qs:ig) (A7:N VQ) (c7:Nat) (S:D Nat),z=J A7 ys.length c7/\q=C Z nx/\j=C Z qs.len/\nx<=xs.length/\ys.length+qs.len<=xs.length/\Hid (fy w wr)/\Hid (Has (zv.sl 3) wr [J A7 ys.length c7] ys S)/\Hid (∀ b∈S,w.heap.size<=b)/\Hid qs.wf/\Hid (xs.drop nx=qs.flat++rs)/\Hid (ys++qs.iL nx=ks.iL (a+1))) (fun _ _ j _=>(Wj j).toNat)
 case atStart=>
  exact⟨a+1,[],ks,_,0,[w.heap.size],rfl,io,rfl,fh,by simp only[VZ];omega,fk (ab.trans gF),fk (Has.iK zv (zj (Vj _ _) ((fy.trans (b:=_) gF hg).trans (fy.trans (b:=_) gF ae)))),fk (fun b hb=>by simp at hb;omega),ak,ah,fk rfl⟩
 case round=>
  obtain⟨nx,ys,qs,A7,c7,S,rfl,rfl,rfl,aE,a7,hG,hH,hS,a5,a3,hE⟩:=hrel
  match qs,a5,a3,hE,a7 with
  | .nil,a5,a3,hE,a7=>
   have HF:Hid (ys=ks.iL (a+1)):=fk (by have h:=hE.out;simpa[ig.iL] using h);have aw:¬ ((0:Int)<((ig.nil.len:Nat):Int)):=by simp[ig.len]
   go_wp2_with(fail);exact Vr (v:=J A7 ys.length c7) (by simp[VF,results216,go_sem]) rfl (mm.mk hH.out HF.out rfl hS.out (hG.out.trans gG))
  | .cons ex q,a5,a3,hE,a7=>
   obtain⟨m,hm⟩:∃ m,q.len=m:=⟨_,rfl⟩
   have ac:(ig.cons ex q).len=m+1:=by simp only[ig.len,hm]
   have HM:=fk hm;rw[ac];have aC:(0:Int)<((m+1:Nat):Int):=fh;have aD:Vl Z (((m+1:Nat):Int)-1)=(m:Int):=by rw[show ((m+1:Nat):Int)-1=(m:Int) from fh];exact iw
   have a8:xs.drop nx=ex.flat++(q.flat++rs):=by rw[a3.out];simp only[ig.flat,VM]
   obtain⟨al,a1⟩:∃ en:Int,en=((nx+ex.size:Nat):Int):=⟨_,rfl⟩
   have HN:Hid (ox xs (nx:Int)=al):=fk (by rw[a1];exact ED a5.out.1 a8);have a2:fQ (nx:Int):=⟨fh,fh⟩
   have af:=a2
   have ar:nx+ex.size<=xs.length:=by
    have h:=WY List.length a8;rw[Vk,ex.ie,WL] at h;omega
   have ai:Hid (xs.drop (nx+ex.size)=q.flat++rs):=fk (by rw[<-Xx,a8,<-ex.ie,Yg]);have aj:=fk a1;have av:ys.length+(m+1)<=xs.length:=by rw[<-ac];exact a7
   clear a8 a1 hm ac a7 a3;go_wp2_with(first | (refine zG (L:=ys.length+1) (y:=(nx:Int)) rfl (.tmp 25) (.tmp 27) me zI (S:=S) (hH.out.fH gF) (ec:=[C Z nx]) (W1:=w) (B:=w.heap.size) ⟨rfl,af.1,af.2⟩ rfl rfl rfl (by intro j u hu;simpa[go_sem] using hu) rfl fh fh ?_;intro A8 c8 W8 S8 au am an;have a4:fy w W8:=au.fH (hG.out.trans gF) hS.out) | (go_at_call 200;refine(zkw (xs:=xs) (a:=(nx:Int)) (Ty.up _ hx (a4.trans gF)) a2 hl).mono ?_;rw[HN.out];rintro e v1 ⟨rfl,hg⟩));go_roundw
   case measure=>exact iC
   case rel=>
    refine⟨nx+ex.size,ys++[(nx:Int)],q,A8,c8,S8,gm,by rw[aj.out],by rw[HM.out],ar,by rw[HM.out];simp only[Vk,VC,VZ];omega,fk (a4.trans (fy.trans (b:=_) gF (hg.trans gF))),fk (by rw[Vk];exact am.fH (fy.trans (b:=_) gF (hg.trans gF))),fk (fun b hb=>?_),fk a5.out.2,ai,fk (by rw[<-hE.out];simp[ig.iL])⟩;rcases an b hb with h | h
    ·exact hS.out b h
    ·have:=hG.out.size;simp at h;omega
theorem Te (n:Int):bits .and Z n 4294967295=n % 4294967296:=by
 have h0:(XP 64 4294967295).toNat=2 ^ 32-1:=gv
 have a0:(XP 64 n &&& XP 64 4294967295).toNat=(n % ((2 ^ 64:Nat):Int)).toNat % 2 ^ 32:=by
  rw[BitVec.toNat_and,BitVec.toNat_ofInt,h0,Yf]
 show Vl Z ((XP 64 n &&& XP 64 4294967295).toNat:Nat)=n % 4294967296;rw[a0,IntKind.wrap_i64];omega
theorem Gd (n:Int) : -2147483648<=kW n/\kW n<=2147483647:=by unfold kW;omega
theorem AJ (n:Int):fQ (kW n):=by have:=Gd n;exact⟨fh,fh⟩
theorem yd {g:Prop} (f:g:=by
  have U9:=fk h1
  clear h1
  go_enter func181,ntmps181
  go_wp2_with(fail)
  rw[U9.out]
  go_ret
  exact⟨rfl,rfl⟩):g:=f
theorem zdx {x:Int} (hx:fQ x):VK prog 181 #[C Z x] w fun r w'=>r=.returned (C Z (kW x))/\w'=w:=by
 have h0:=Te x;by_cases q:(2147483647:Int)<x % 4294967296
 ·have h1:kW x=x % 4294967296-4294967296:=by unfold kW;omega
  have h2:Xr (x % 4294967296-4294967296)=x % 4294967296-4294967296:=by unfold Xr;omega
  exact yd
 ·have h1:kW x=x % 4294967296:=by unfold kW;omega
  exact yd
theorem ZD {g:Prop} (f:g:=by
  go_enter func142,ntmps142
  go_wp2_with(go_at_call 181;first
   | (with_reducible refine(zdx (x:=a) ha).mono ?_;rw[HA.out];rintro e w1 ⟨rfl,rfl⟩)
   | (with_reducible refine(zdx (x:=b) hb).mono ?_;rw[HB.out];rintro e w1 ⟨rfl,rfl⟩))
  rw[HQ.out]
  go_ret
  exact⟨rfl,rfl⟩):g:=f
theorem zgE {k b:Int} (hk:2<=k/\k<=6)(ha:fQ a)(hb:fQ b):VK prog 142 #[C Z k,C Z a,C Z b] w fun r w'=>r=.returned (C Z (kS (k+3) a b))/\w'=w:=by
 obtain⟨A,hA⟩:∃ A,kW a=A:=⟨_,rfl⟩
 obtain⟨B,hB⟩:∃ B,kW b=B:=⟨_,rfl⟩
 have bA:=Gd a;have bB:=Gd b;rw[hA] at bA;rw[hB] at bB;have HA:=fk hA;have HB:=fk hB;have a0:k=2∨k=3∨k=4∨k=5∨k=6:=fh;have a2:Xr (A+B)=A+B:=by unfold Xr;omega
 have a3:Xr (A-B)=A-B:=by unfold Xr;omega
 have a1 : -4611686018427387904<=A*B/\A*B<=4611686018427387904:=by
  have h1:(A*B).natAbs<=2147483648*2147483648:=by rw[Int.natAbs_mul];exact Za fh fh
  omega
 have a4:Xr (A*B)=A*B:=by unfold Xr;omega
 have j1:fQ (A+B):=⟨fh,fh⟩
 have j2:fQ (A-B):=⟨fh,fh⟩
 have j3:fQ (A*B):=⟨fh,fh⟩
 clear hA hB;rcases a0 with rfl | rfl | rfl | rfl | rfl
 ·have HQ:=fk (show kS (2+3) a b=kW (A+B) from by unfold kS;rw[HA.out,HB.out];rfl)
  go_enter func142,ntmps142
  go_wp2_with(go_at_call 181;first
   | (with_reducible refine(zdx (x:=a) ha).mono ?_;rw[HA.out];rintro e w1 ⟨rfl,rfl⟩)
   | (with_reducible refine(zdx (x:=b) hb).mono ?_;rw[HB.out];rintro e w1 ⟨rfl,rfl⟩)
   | (with_reducible refine(zdx (x:=A+B) j1).mono ?_;rintro e w1 ⟨rfl,rfl⟩))
  rw[HQ.out];go_ret;exact⟨rfl,rfl⟩
 ·have HQ:=fk (show kS (3+3) a b=kW (A-B) from by unfold kS;rw[HA.out,HB.out];rfl)
  go_enter func142,ntmps142
  go_wp2_with(go_at_call 181;first
   | (with_reducible refine(zdx (x:=a) ha).mono ?_;rw[HA.out];rintro e w1 ⟨rfl,rfl⟩)
   | (with_reducible refine(zdx (x:=b) hb).mono ?_;rw[HB.out];rintro e w1 ⟨rfl,rfl⟩)
   | (with_reducible refine(zdx (x:=A-B) j2).mono ?_;rintro e w1 ⟨rfl,rfl⟩))
  rw[HQ.out];go_ret;exact⟨rfl,rfl⟩
 ·have HQ:=fk (show kS (4+3) a b=kW (A*B) from by unfold kS;rw[HA.out,HB.out];rfl)
  go_enter func142,ntmps142
  go_wp2_with(go_at_call 181;first
   | (with_reducible refine(zdx (x:=a) ha).mono ?_;rw[HA.out];rintro e w1 ⟨rfl,rfl⟩)
   | (with_reducible refine(zdx (x:=b) hb).mono ?_;rw[HB.out];rintro e w1 ⟨rfl,rfl⟩)
   | (with_reducible refine(zdx (x:=A*B) j3).mono ?_;rintro e w1 ⟨rfl,rfl⟩))
  rw[HQ.out];go_ret;exact⟨rfl,rfl⟩
 ·by_cases q:A<B
  ·have HQ:=fk (show kS (5+3) a b=1 from by unfold kS;rw[HA.out,HB.out];exact Vs q)
   exact ZD
  ·have HQ:=fk (show kS (5+3) a b=0 from by unfold kS;rw[HA.out,HB.out];exact Vo q)
   exact ZD
 ·by_cases q:A=B
  ·have HQ:=fk (show kS (6+3) a b=1 from by unfold kS;rw[HA.out,HB.out];exact Vs q)
   exact ZD
  ·have HQ:=fk (show kS (6+3) a b=0 from by unfold kS;rw[HA.out,HB.out];exact Vo q)
   exact ZD
def AP (last:Int)(r:iF):Bool:=decide (last<=r.fA) && decide (r.fA<r.iD) && decide (r.iD<=1000000) && gE r.fT 0 1200 && !(r.Frame && decide (r.fT≠0))
theorem CZ:AP last r=H↔last<=r.fA/\r.fA<r.iD/\r.iD<=1000000/\gE r.fT 0 1200=H/\(r.Frame=H->r.fT=0):=by
 unfold AP;simp only[Vt,VD,Yr,X6,WA,Classical.not_not];constructor
 ·rintro⟨⟨⟨⟨h1,h2⟩,h3⟩,h4⟩,h5⟩
  refine⟨h1,h2,h3,h4,fun hf=>?_⟩;rcases h5 with h5 | h5
  ·rw[hf] at h5;cases h5
  ·exact h5
 ·rintro⟨h1,h2,h3,h4,h5⟩
  refine⟨⟨⟨⟨h1,h2⟩,h3⟩,h4⟩,?_⟩;cases hf:r.Frame with
  | false=>exact .inl rfl
  | true=>exact .inr (h5 hf)
theorem BI (h:¬ (last<=r.fA/\r.fA<r.iD/\r.iD<=1000000/\gE r.fT 0 1200=H/\(r.Frame=H->r.fT=0))):AP last r=M:=by
 cases hq:AP last r with
 | false=>rfl
 | true=>exact absurd (CZ.1 hq) h
def sM:Int->D iF->Bool
 | _,[]=>H
 | last,r::rs=>AP last r && sM r.iD rs
theorem DX {rs:D iF} (h:rs[k]?=F r)(last:Int):sM last (rs.drop k)=(AP last r && sM r.iD (rs.drop (k+1))):=by
 obtain⟨h1,rfl⟩:=Vh.1 h;rw[VB h1];rfl
def rI (rs:D iF)(k:Nat):Int:=match k with
 | 0=>0
 | j+1=>(rs[j]?.map iF.iD).getD 0
def wh (prev:Int)(r:jk):Bool:=gE r.fN 0 1000000 && gE r.fZ 0 59 && decide (prev<r.fN)
def sQ:Int->D jk->Bool
 | _,[]=>H
 | p,r::rs=>wh p r && sQ r.fN rs
def rowAt:D jk->Int->Nat->Int->Int
 | [],_,_,f=>f
 | r::rs,off,k,f=>rowAt rs off (k+1) (if r.fN<=off then (k:Int) else f)
theorem Bx {rs:D jk} {r:jk} (h:rs[k]?=F r)(p:Int):sQ p (rs.drop k)=(wh p r && sQ r.fN (rs.drop (k+1))):=by
 obtain⟨h1,rfl⟩:=Vh.1 h;rw[VB h1];rfl
def lF (x:gL):Bool:=decide (0<=x.fA) && decide (x.fA<x.iD) && decide (x.iD<=1000000) && gE x.gJ 0 2 && gE x.fZ 0 59 && mN x.fJ
def tA (q x:gL):Bool:=decide (x.gJ<q.gJ) || (q.gJ == x.gJ && decide (x.fA<q.iD))
def tI (x y:gL):Bool:=y.gJ == x.gJ-1 && (decide (y.fA<=x.fA) && decide (x.iD<=y.iD))
def uu (x:gL):Bool->D gL->Bool
 | b,[]=>b
 | b,y::ys=>uu x (b || tI x y) ys
def Du (all:D gL)(k:Nat)(x:gL):Bool:=match k with
 | 0=>M
 | j+1=>tA (all[j]?.getD x) x
def m9 (all:D gL)(k:Nat)(x:gL):Bool:=lF x && !Du all k x && uu x (x.gJ == 0) (all.take k)
def yN (all:D gL):Nat->D gL->Bool
 | _,[]=>H
 | k,x::r=>m9 all k x && yN all (k+1) r
def yA (xs:D gL):Bool:=yN xs 0 xs
theorem yr (h:rs[k]?=F x):yN all k (rs.drop k)=(m9 all k x && yN all (k+1) (rs.drop (k+1))):=by
 obtain⟨h1,rfl⟩:=Vh.1 h;rw[VB h1];rfl
theorem sx (h:lF x=M):m9 all k x=M:=by
 unfold m9;rw[h];rfl
theorem Ko (h:all[j]?=F q)(hb:tA q x=H):m9 all (j+1) x=M:=by
 unfold m9 Du;simp only[h,WM,hb];simp
theorem Re (h:lF x=H):m9 all 0 x=uu x (x.gJ == 0) (all.take 0):=by
 unfold m9 Du;rw[h];rfl
theorem Rd (h:lF x=H)(hq:all[j]?=F q)(hb:tA q x=M):m9 all (j+1) x=uu x (x.gJ == 0) (all.take (j+1)):=by
 unfold m9 Du;simp only[hq,WM,hb,h];rfl
theorem Kn (h:lF x=H):0<=x.gJ/\x.gJ<=2:=by
 unfold lF at h;simp only[Vt] at h;exact zr.1 h.1.1.2
theorem BE {y:gL} (h:rs[i]?=F y)(hik:i<k)(b:Bool):uu x b ((rs.take k).drop i)=uu x (b || tI x y) ((rs.take k).drop (i+1)):=by
 obtain⟨h1,rfl⟩:=Vh.1 h;have h2:i<(rs.take k).length:=by rw[WK];omega
 rw[VB h2];show uu x (b || tI x (rs.take k)[i]) _=_;rw[List.getElem_take]
theorem IA (h:k<=i)(b:Bool):uu x b ((rs.take k).drop i)=b:=by
 rw[XG (by rw[WK];omega)];rfl
end Go.Proofs.YthgbglbaemelhaaGreat
