/-
  PART.
-/
import Derived.Test.YthgbglbaemelhaaGreatM18LawRecords
import Derived.Test.YthgbglbaemelhaaGreatM15LawRecords
import Derived.Test.YthgbglbaemelhaaGreatRows
import Derived.ShutString
set_option linter.unusedVariables false
set_option linter.unusedSimpArgs false
set_option maxRecDepth 100000
set_option maxHeartbeats 64000000
namespace Go.Proofs.YthgbglbaemelhaaGreat
open Value renaming slice->J,int->C,bool->X,string->Q
open IntKind renaming i64->Z,wrap->Vl
open Option renaming none->I,some->F
open Obj renaming cells->U
open Bool renaming false->M,true->H
open Go renaming World->V,Calls->VK,Addr->VQ,TypeId->Wl,yielded->Xb,results->VF
open World renaming cell?->Vg,setCell->Wc,alloc->WJ
open _root_.Int renaming toNat_natCast->Vy
open List renaming replicate->VP,length_cons->VC,getElem?_cons_zero->VU,length_nil->VZ,getElem?_cons_succ->Ww
open _root_.Nat renaming add_zero->Wk
open Instr renaming sliceAt->Yo
open RowKit renaming intOf->Wj
open Region renaming wanted->V6,ready->Wv,noSelect->XV,Mode->XY,free->YI
open _root_.Go.Proofs.Tryz
open Go.RowKit
section
variable {A:N VQ}{c:Nat}{w:V}{x:gB}
theorem wu {g:Prop} (f:g:=by
  have hP4:=HP.out.qx hg4;obtain⟨p0,p1,p2,p3,p4,p5,p6,pf,pl⟩:=jb hP4.box;have hz:=hP4.kept (g:=g+1) (.tail _ (.head _));obtain⟨z0,z1,z2,z3,z4,z5,z6,zf,zl⟩:=jb hz;obtain⟨hHx,hlx,hnx⟩:=hP4.whole ht hle hsl;have hGw:=hG0.trans hP4.fH;clear hP4;have hLe:=hLe.fH hg4
  have hSLg:g+1∉[g7]:=by simp;omega
  have hSLw:∀ b∈[g7],w.heap.size<=b:=by simp;omega
  have hdd:∀ b∈S0++S3,b∉[g7]:=by
   intro b hb hm
   simp at hm
   subst hm
   rcases VA.1 hb with h9 | h9
   ·have:=hl0 _ h9;omega
   ·have:=hl3 _ h9;omega
  go_wp2_with(fail)
  have h9:=qT hz (J B0 x.fo.fw.length d0) (J B1 x.fo.fD.length d1) (J B2 x.fo.fm.length d2) (J B3 x.fu.length d3) (C Z x.gM) (C Z x.gO) (C Z x.fW)
  generalize (((((((w4.setCell _ _).setCell _ _).setCell _ _).setCell _ _).setCell _ _).setCell _ _).setCell _ _)=Vb at h9 |-
  obtain⟨r0,r1,r2,r3,r4,r5,r6,_,_⟩:=jb h9.1
  have hGX:=h9.2.fH hGw (fun b hb'=>by simp at hb';omega)
  have hF9:=hHx.gu h9.2 (fun b hb' hm=>by simp at hm;exact hnx _ (.tail _ (.head _)) (hm ▸ hb'))
  have hF8:=hLe.gu h9.2 (fun b hb' hm=>by simp at hm;exact hSLg (hm ▸ hb'))
  rw[HQ.out]
  exact Vr (v:=.tuple #[.agg #[J B0 x.fo.fw.length d0,J B1 x.fo.fD.length d1,J B2 x.fo.fm.length d2,J B3 x.fu.length d3,C Z x.gM,C Z x.gO,C Z x.fW],J (F ⟨g7,0,I⟩) 0 0]) (by simp[VF,results26,go_sem,r0,r1,r2,r3,r4,r5,r6]) rfl ⟨B0,d0,B1,d1,B2,d2,B3,d3,_,_,_,_,rfl,hF9,hF8,hdd,(fun b hb2=>by have:=hlx b hb2;omega),hSLw,hGX⟩):g:=f
theorem xQ {g:Prop} (f:g:=by
  have e1:=hvy.t0;have e2:=hvy.t1;have e3:=hvy.l1;have e4:=hvy.l2;have e5:=hvy.s1;have e6:=hvy.n3
  exact⟨⟨fh,fh⟩,⟨fh,fh⟩,⟨fh,fh⟩⟩):g:=f
theorem tR {g:Prop} (f:g:=by
  rcases VA.1 hb with h9 | h9
  ·exact(hSLd b hm).2.2.1 h9
  ·exact(hSLd b hm).2.2.2 h9):g:=f
theorem zzs {limit:Int} {A0 A1 A2 A3:N VQ} {c0 c1 c2 c3:Nat} (h0:(jS.sl 103).R w w.heap.size [J A0 x.fo.fw.length c0] x.fo.fw)(h1:(zv.sl 3).R w w.heap.size [J A1 x.fo.fD.length c1] x.fo.fD)
  (h2:(zv.sl 3).R w w.heap.size [J A2 x.fo.fm.length c2] x.fo.fm) (h3:(lQ.sl 41).R w w.heap.size [J A3 x.fu.length c3] x.fu) (ht:fQ x.gM) (hle:fQ x.gO) (hsl:fQ x.fW) (hli:fQ limit) (hs:zQ x<=1099511600000) :
  VK prog 26 #[.agg #[J A0 x.fo.fw.length c0,J A1 x.fo.fD.length c1,J A2 x.fo.fm.length c2,J A3 x.fu.length c3,C Z x.gM,C Z x.gO,C Z x.fW],C Z limit] w (R7 (tK x limit) w):=by
 have hG0:fy w ((w.alloc (U #[J A0 x.fo.fw.length c0,J A1 x.fo.fD.length c1,J A2 x.fo.fm.length c2,J A3 x.fu.length c3,C Z x.gM,C Z x.gO,C Z x.fW] 34)).alloc (U #[J I 0 0,J I 0 0,J I 0 0,J I 0 0,C Z 0,C Z 0,C Z 0] 34)):=gG;obtain⟨av,aC⟩:=Uu w #[J A0 x.fo.fw.length c0,J A1 x.fo.fD.length c1,J A2 x.fo.fm.length c2,J A3 x.fu.length c3,C Z x.gM,C Z x.gO,C Z x.fW] #[J I 0 0,J I 0 0,J I 0 0,J I 0 0,C Z 0,C Z 0,C Z 0] 34 34;have k0:=Ty.up _ h0 hG0;have k1:=Ty.up _ h1 hG0;have k2:=Ty.up _ h2 hG0;have k3:=Ty.up _ h3 hG0;have aA:zQ x<=1099511627776:=fh;have aQ:=OD h3;obtain⟨b9,ba⟩:=hli;obtain⟨g,hg⟩:∃ g,w.heap.size=g:=⟨_,rfl⟩
 obtain⟨q,hq⟩:∃ q,km x=q:=⟨_,rfl⟩
 obtain⟨ql,ai⟩:∃ q,gE limit 0 3000=q:=⟨_,rfl⟩
 have HB:=fk hq;have HL:=fk ai;have aV:=fk aQ;have aB:=fk hs;clear aQ hs;go_enter func26,ntmps26;go_upto_region 1 with(fail);rw[hg] at av aC;generalize ((w.alloc _).alloc _)=W1 at hG0 av aC k0 k1 k2 k3 |-;have bj:=hG0.size;clear h0 h1 h2 h3;obtain⟨a0,a1,a2,a3,a4,a5,a6,af,al⟩:=jb av;go_upto_region 2 with(go_at_call 48;refine(znH (x:=x) k0 k1 k2 k3 ht hle hsl aA).mono ?_;rintro e w2 ⟨B0,d0,B1,d1,B2,d2,B3,d3,rfl,aM,aJ,e2,rfl⟩)
 obtain⟨S0,S3,hP⟩:=lU.make (B:=[(g,U #[J A0 x.fo.fw.length c0,J A1 x.fo.fD.length c1,J A2 x.fo.fm.length c2,J A3 x.fu.length c3,C Z x.gM,C Z x.gO,C Z x.fW] 34 (0,0)),(g+1,U #[J I 0 0,J I 0 0,J I 0 0,J I 0 0,C Z 0,C Z 0,C Z 0] 34 (0,0))]) aM (fy.of W1 aJ e2) (by
  intro p hp;simp only[VT,WB,Xy] at hp;rcases hp with rfl | rfl
  ·exact av
  ·exact aC)
 rw[mJ] at hP;obtain⟨g4,hg4⟩:∃ g4,W1.heap.size+aJ.size=g4:=⟨_,rfl⟩
 rw[hg4] at hP |-;generalize (fH W1 aJ e2).alloc _=wc at hP |-;clear aM hg4 a0 a1 a2 a3 a4 a5 a6 af al;go_upto_region 3 with(fail);have ak:=hP.qx (W':=wc.alloc (U #[] 3)) ((fy.refl _).alloc _);have hLe:=Has.iK zv (Vj wc (U #[] 3));have b7:=(blt hP.box)
 have hl0:=hP.sp.lt;have hl3:=hP.th.lt;have b2:=(Wt.1 (hP.kept (g:=g+1) (.tail _ (.head _)))).1;have aG:=(Wt.1 (hP.kept (g:=g) (.head _))).1;have b0:=hP.fH.size;clear hP;obtain⟨g7,aP⟩:∃ g7,wc.heap.size=g7:=⟨_,rfl⟩
 rw[aP] at hLe b7 hl0 hl3 b2 aG b0 |-;have hP:=ak;have az:g7<(wc.alloc (U #[] 3)).heap.size:=by rw[VH];omega
 generalize wc.alloc _=wd at hP hLe az |-;clear ak aP;obtain⟨a0,a1,a2,a3,a4,a5,a6,af,al⟩:=jb (hP.kept (g:=g) (.head _));have k0:=Ty.up _ k0 hP.fH;have k1:=Ty.up _ k1 hP.fH;have k2:=Ty.up _ k2 hP.fH;have k3:=Ty.up _ k3 hP.fH;have HP:=fk hP;clear hP;cases q with
 | false=>
  have HQ:=fk (show tK x limit=(x,[]) from by unfold tK;rw[Vo (by rw[hq];simp)]);clear hq ai;go_upto_region 4 with(go_at_call 47;refine(zfT (x:=x) k0 k1 k2 k3 aA).mono ?_;rw[HB.out];rintro e w4 ⟨rfl,hg4⟩);exact wu
 | true=>
 cases ql with
 | false=>
  have HQ:=fk (show tK x limit=(x,[]) from by unfold tK;rw[Vo (by rw[ai];simp)]);clear hq ai;go_upto_region 4 with(first | (go_at_call 47;refine(zfT (x:=x) k0 k1 k2 k3 aA).mono ?_;rw[HB.out];rintro e w4 ⟨rfl,hg4⟩) | (go_at_call 43;refine(iU _ _ _ _).mono ?_;rw[HL.out];rintro e w5 ⟨rfl,rfl⟩));exact wu
 | true=>
  have b8:=zr.1 ai;obtain⟨K,rfl⟩:=VI b8.1;have aO:tK x (K:Int)=oR K x []:=by unfold tK;rw[Vs ⟨hq,ai⟩,Vy]
  have hv:=mj.mk' (Ve:=1099511600000) hq aB.out aV.out;have HV:=fk hv;have aW:=fk aO;clear hq ai hv aO;go_upto_region 5 with(first | (go_at_call 47;refine(zfT (x:=x) k0 k1 k2 k3 aA).mono ?_;rw[HB.out];rintro e w4 ⟨rfl,hg4⟩) | (go_at_call 43;refine(iU _ _ _ _).mono ?_;rw[HL.out];rintro e w5 ⟨rfl,rfl⟩));have hP4:=HP.out.qx hg4;have ak:=hP4;have hLe:=hLe.fH hg4;have az:g7<w4.heap.size:=by have:=hg4.size;omega
  go_wp2;obtain⟨wl,aS⟩:∃ wl,w4=wl:=⟨_,rfl⟩
  rw[aS] at ak hLe az |-;clear hP4 aS;go_loopw [7] (fun a wr=>∃(y:gB) (ts:D Int) (A7:N VQ) (c7:Nat) (SL T3:D Nat),a=J A7 ts.length c7/\ts.length<=K/\Hid (lU [(g,U #[J A0 x.fo.fw.length c0,J A1 x.fo.fD.length c1,J A2 x.fo.fm.length c2,J A3 x.fu.length c3,C Z x.gM,C Z x.gO,C Z x.fW] 34 (0,0)),(g+1,U #[J I 0 0,J I 0 0,J I 0 0,J I 0 0,C Z 0,C Z 0,C Z 0] 34 (0,0))] W1 wr g4 y B0 d0 B1 d1 B2 d2 B3 d3 S0 T3)/\Hid (mj (1099511600000+ts.length) y)/\Hid (Has (zv.sl 3) wr [J A7 ts.length c7] ts SL)/\Hid (∀ b∈SL,W1.heap.size<=b)/\Hid (∀ b∈SL,b<wr.heap.size/\b≠g4/\b∉S0/\b∉T3)/\Hid (∀ p∈[(g,U #[J A0 x.fo.fw.length c0,J A1 x.fo.fD.length c1,J A2 x.fo.fm.length c2,J A3 x.fu.length c3,C Z x.gM,C Z x.gO,C Z x.fW] 34 (0,0)),(g+1,U #[J I 0 0,J I 0 0,J I 0 0,J I 0 0,C Z 0,C Z 0,C Z 0] 34 (0,0))],p.1∉SL)/\Hid (oR (K-ts.length) y ts=tK x (K:Int))/\zQ y<=zQ x+ts.length) (fun a _=>K-KH a)
  case atStart=>
   refine⟨x,[],F ⟨g7,0,I⟩,0,[g7],S3,rfl,Vu _,fk ak,HV,fk hLe,fk (by intro b hb;simp at hb;omega),fk (by
    intro b hb;simp at hb;subst hb
    exact⟨az,fh,fun hm=>by have:=hl0 _ hm;omega,fun hm=>by have:=hl3 _ hm;omega⟩),fk (by
    intro p hp;simp only[VT,WB,Xy] at hp;rcases hp with rfl | rfl
    ·simp;omega
    ·simp;omega),fk (by rw[VZ,Nat.sub_zero];exact aW.out.symm),Vz _⟩
  case round=>
   obtain⟨y,ts,A7,c7,SL,T3,rfl,bi,ay,an,ax,ah,ad,ag,aw,ar⟩:=hrel;by_cases hlt:ts.length<K
   ·have b4:(ts.length:Int)<(K:Int):=fh
    have am:=ay.out.beside ad.out;have aK:=fk am;clear am;have aL:=fk (TR y);go_upto_if 28 with(go_at_call 49;refine(zzy aK.out an.out fh).mono ?_;rintro e w5 ⟨rfl,au,S5,a9⟩)
    obtain⟨aD,ae⟩:=ax.out.beside a9;have a9:=a9.drop (B':=[(g,U #[J A0 x.fo.fw.length c0,J A1 x.fo.fD.length c1,J A2 x.fo.fm.length c2,J A3 x.fu.length c3,C Z x.gM,C Z x.gO,C Z x.fW] 34 (0,0)),(g+1,U #[J I 0 0,J I 0 0,J I 0 0,J I 0 0,C Z 0,C Z 0,C Z 0] 34 (0,0))]) (fun p hp=>VV _ hp);have aq:=Kx y;obtain⟨x5,aT⟩:∃ z,oB y=z:=⟨_,rfl⟩
    have a8:=aw.out;have aX:K-ts.length=(K-(ts.length+1))+1:=fh;rw[aX] at a8;unfold oR at a8;have aR:=aL.out;have bh:=an.out.n3;rw[aT] at au a9 aq a8 aR |-;obtain⟨y5,t5⟩:=x5;simp only at au a9 aq a8 aR |-;clear aT aL aK ay an ax ad aw;by_cases ht5:t5<0
    ·rw[Vs ht5] at a8
     have HQ:=fk a8.symm;have aa:=ag.out;have ab:=ah.out;have hvy:=au;have a7:=a9;have aE:=aD;have hSLd:=ae;have ar:zQ y5<=zQ x+3000:=fh;clear a8 au a9 aD ae
     have aj:fQ y5.gM/\fQ y5.gO/\fQ y5.fW:=by
      exact xQ
     have hz:=a7.kept (g:=g+1) (.tail _ (.head _));obtain⟨z0,z1,z2,z3,z4,z5,z6,zf,zl⟩:=jb hz;obtain⟨hHx,hlx,hnx⟩:=a7.whole aj.1 aj.2.1 aj.2.2;have hGw:=hG0.trans a7.fH;obtain⟨f0,f1,f2⟩:=Cu a7.sp.read;have f3:=a7.th.read;obtain⟨p0,p1,p2,p3,p4,p5,p6,pf,pl⟩:=jb a7.box;have b5:=(blt hz)
     have bf:=hGw.size;have hSLg:g+1∉SL:=fun hm=>(aa (g+1,_) (.tail _ (.head _))) hm;have hSLw:∀ b∈SL,w.heap.size<=b:=fun b hb=>by have:=ab b hb;omega
     have be:zQ y5<=1099511627776:=by have:=aB.out;omega
     clear hvy a7;go_wp2_with(fail)
     have hdd:∀ b∈S0++S5,b∉SL:=fun b hb hm=>by
      exact tR
     have h9:=qT hz (J B0 y5.fo.fw.length d0) (J B1 y5.fo.fD.length d1) (J B2 y5.fo.fm.length d2) (J B3 y5.fu.length d3) (C Z y5.gM) (C Z y5.gO) (C Z y5.fW);generalize (((((((w5.setCell _ _).setCell _ _).setCell _ _).setCell _ _).setCell _ _).setCell _ _).setCell _ _)=Vb at h9 |-;obtain⟨r0,r1,r2,r3,r4,r5,r6,_,_⟩:=jb h9.1;have hGX:=h9.2.fH hGw (fun b hb'=>by simp at hb';omega);have hF9:=hHx.gu h9.2 (fun b hb' hm=>by simp at hm;exact hnx _ (.tail _ (.head _)) (hm ▸ hb'));have hF8:=aE.gu h9.2 (fun b hb' hm=>by simp at hm;exact hSLg (hm ▸ hb'));rw[HQ.out];exact Vr (v:=.tuple #[.agg #[J B0 y5.fo.fw.length d0,J B1 y5.fo.fD.length d1,J B2 y5.fo.fm.length d2,J B3 y5.fu.length d3,C Z y5.gM,C Z y5.gO,C Z y5.fW],J A7 ts.length c7]) (by simp[VF,results26,go_sem,r0,r1,r2,r3,r4,r5,r6]) rfl ⟨B0,d0,B1,d1,B2,d2,B3,d3,_,_,_,_,rfl,hF9,hF8,hdd,(fun b hb2=>by have:=hlx b hb2;omega),hSLw,hGX⟩
    ·rw[Vo ht5] at a8
     have ao:fQ t5:=⟨fh,fh⟩;have aU:=fk a8;have ab:=ah.out;have aa:=ag.out;clear a8
     go_wp2_with(first
      | (at_builtin;refine zG (W1:=w5) (L:=ts.length+1) rfl (.tmp 29) (.tmp 31) me zI (aD.fH gF) (ec:=[C Z t5]) (y:=t5) (B:=0) ⟨rfl,ao.1,ao.2⟩ rfl rfl rfl (by intro j u hu;simpa[go_sem] using hu) rfl fh fh ?_;intro A9 c9 W9 S9 bd aN aZ))
     have aY:=a9.qx (W':=w5.alloc (U #[C Z t5] 3)) gF;have aF:=aY.only bd (fun b hb=>⟨(ae b hb).2.1,(ae b hb).2.2.1,(ae b hb).2.2.2,ab b hb,fun p hp he=>aa p hp (he ▸ hb)⟩);have ap:(ts++[t5]).length=ts.length+1:=gm;have b6:=aN.lt;have bc:=(blt aF.box)
     have bg:=aF.fH.size;have bb:=(blt a9.box);have aH:=a9.sp.lt;have aI:=a9.th.lt
     have ac:∀ b∈S9,b∈SL∨w5.heap.size<=b:=fun b hb=>by
      rcases aZ b hb with h1 | h1
      ·exact .inl h1
      ·rw[VH] at h1;exact .inr fh
     have b1:=a9.fH.size;have b3:=fun p hp=>(Wt.1 (a9.kb p hp).1).1;go_roundw
     case measure=>(simp[KH];try omega)
     case rel=>
      refine⟨y5,ts++[t5],A9,c9,S9,S5,by rw[ap],fh,fk aF,fk (by rw[ap];exact au),fk (by rw[ap];exact aN),fk (fun b hb=>?_),fk (fun b hb=>⟨b6 b hb,fun he=>?_,fun hm=>?_,fun hm=>?_⟩),fk (fun p hp hm=>?_),fk (by rw[ap];exact aU.out),by rw[ap];omega⟩
      ·rcases ac b hb with h1 | h1
       ·exact ab b h1
       ·omega
      ·rcases ac b hb with h1 | h1
       ·exact(ae b h1).2.1 he
       ·omega
      ·rcases ac b hb with h1 | h1
       ·exact(ae b h1).2.2.1 hm
       ·have:=aH b hm;omega
      ·rcases ac b hb with h1 | h1
       ·exact(ae b h1).2.2.2 hm
       ·have:=aI b hm;omega
      ·rcases ac p.1 hm with h1 | h1
       ·exact aa p hp h1
       ·have:=b3 p hp;omega
   ·have b4:¬ ((ts.length:Int)<(K:Int)):=fh
    have a8:=aw.out;rw[show K-ts.length=0 from fh] at a8;have HQ:=fk (show tK x (K:Int)=(y,ts) from a8.symm);have aa:=ag.out;have ab:=ah.out;have hvy:=an.out;have a7:=ay.out;have aE:=ax.out;have hSLd:=ad.out;have ar:zQ y<=zQ x+3000:=fh;clear a8 ay an ax ad aw
    have aj:fQ y.gM/\fQ y.gO/\fQ y.fW:=by
     exact xQ
    have hz:=a7.kept (g:=g+1) (.tail _ (.head _));obtain⟨z0,z1,z2,z3,z4,z5,z6,zf,zl⟩:=jb hz;obtain⟨hHx,hlx,hnx⟩:=a7.whole aj.1 aj.2.1 aj.2.2;have hGw:=hG0.trans a7.fH;obtain⟨f0,f1,f2⟩:=Cu a7.sp.read;have f3:=a7.th.read;obtain⟨p0,p1,p2,p3,p4,p5,p6,pf,pl⟩:=jb a7.box;have b5:=(blt hz)
    have bf:=hGw.size;have hSLg:g+1∉SL:=fun hm=>(aa (g+1,_) (.tail _ (.head _))) hm;have hSLw:∀ b∈SL,w.heap.size<=b:=fun b hb=>by have:=ab b hb;omega
    have be:zQ y<=1099511627776:=by have:=aB.out;omega
    clear hvy a7;go_wp2_with(fail)
    have hdd:∀ b∈S0++T3,b∉SL:=fun b hb hm=>by
     exact tR
    have h9:=qT hz (J B0 y.fo.fw.length d0) (J B1 y.fo.fD.length d1) (J B2 y.fo.fm.length d2) (J B3 y.fu.length d3) (C Z y.gM) (C Z y.gO) (C Z y.fW);generalize (((((((wr.setCell _ _).setCell _ _).setCell _ _).setCell _ _).setCell _ _).setCell _ _).setCell _ _)=Vb at h9 |-;obtain⟨r0,r1,r2,r3,r4,r5,r6,_,_⟩:=jb h9.1;have hGX:=h9.2.fH hGw (fun b hb'=>by simp at hb';omega);have hF9:=hHx.gu h9.2 (fun b hb' hm=>by simp at hm;exact hnx _ (.tail _ (.head _)) (hm ▸ hb'));have hF8:=aE.gu h9.2 (fun b hb' hm=>by simp at hm;exact hSLg (hm ▸ hb'));rw[HQ.out];exact Vr (v:=.tuple #[.agg #[J B0 y.fo.fw.length d0,J B1 y.fo.fD.length d1,J B2 y.fo.fm.length d2,J B3 y.fu.length d3,C Z y.gM,C Z y.gO,C Z y.fW],J A7 ts.length c7]) (by simp[VF,results26,go_sem,r0,r1,r2,r3,r4,r5,r6]) rfl ⟨B0,d0,B1,d1,B2,d2,B3,d3,_,_,_,_,rfl,hF9,hF8,hdd,(fun b hb2=>by have:=hlx b hb2;omega),hSLw,hGX⟩
def rG (xs:D UInt8)(i:Nat):Nat:=((xs[(i*5+1) % xs.length]?).getD 0).toNat
theorem IY (xs:D UInt8)(i:Nat):rG xs i<256:=UInt8.toNat_lt _
theorem zzK {xs:D UInt8} (hx:(nV.sl 5).R w w.heap.size [J A xs.length c] xs)(i:Nat)(hi:i<=1000000000)(hl:xs.length<=1099511627776) :
  VK prog 27 #[J A xs.length c,C Z (i:Int)] w fun e w'=>e=.returned (C Z (rG xs i:Int))/\fy w w':=by
 by_cases h0:xs.length=0
 ·have hb:(((xs.length:Nat):Int) == 0)=H:=by simp[h0]
  have HV:=fk (show (0:Int)=(rG xs i:Int) from by
   have:xs = []:=Xu h0;subst this
   rfl)
  clear h0;go_enter func27,ntmps27;go_wp2_with(fail);go_ret;exact⟨nB HV.out,fy.refl _⟩
 ·have hb:(((xs.length:Nat):Int) == 0)=M:=by simp only[Vw];omega
  obtain⟨n,hn⟩:∃ n,(i*5+1) % xs.length=n:=⟨_,rfl⟩
  have a3:n<xs.length:=by rw[<-hn];exact Y6 _ fh
  obtain⟨g,aa,x,ec,rfl,a4,a1,rfl,a0⟩:=pz hx (k:=n) a3;have a2:=a0 0 _ rfl;simp only[show nV.size=1 from rfl,Xo,Wk] at a2;have a7:Vl Z ((i:Int)*5)=(i:Int)*5:=iw;have a8:Vl Z ((i:Int)*5+1)=(i:Int)*5+1:=iw
  have hm:Int.tmod ((i:Int)*5+1) (xs.length:Int)=(n:Int):=by
   rw[Y9 fh,show (i:Int)*5+1=((i*5+1:Nat):Int) from fh,<-Int.natCast_emod,hn]
  have hz:¬ ((xs.length:Nat):Int)=0:=fh;have a6:(n:Int)<(xs.length:Int):=fh;have a5:(0:Int)<=(n:Int):=fh
  have HV:=fk (show ((x.toNat:Nat):Int)=(rG xs i:Int) from by
   unfold rG;rw[hn,a1]
   rfl)
  have a9:=x.toNat_lt;clear a0 a1 hx h0 hn;go_enter func27,ntmps27;go_wp2_with(fail);go_ret;exact⟨nB HV.out,gG⟩
theorem zwA (s:G)(w:V)(hs:s.size<=1099511627000):VK prog 30 #[Q s] w (F1 (qU s) w):=by
 have a3:s.size<=1099511627776:=fh;obtain⟨t,z,ok,hd⟩:∃ t z ok,iN s 0=(t,z,ok):=⟨_,_,_,rfl⟩
 obtain⟨l,n,ac,hu⟩:∃ l n ac,iX s z=(l,n,ac):=⟨_,_,_,rfl⟩
 have HD:=fk hd;have HU:=fk hu;have a1:fQ 0:=⟨fh,fh⟩
 have aG:z<=6:=Uy hd;have aj:fQ (z:Int):=⟨fh,fh⟩
 have HS:=fk (show qU s=if ac=H/\3<=l.length/\li (pw t l)=s then (pw t l,H) else (sI,M) from by unfold qU;rw[hd];simp only;rw[hu]);have av:l.length<=s.size:=SR hu;have HN:=fk (UK hu)
 have HM:Hid (ac=H->3<=l.length->li (pw t l)=s->ok=H/\z+n=s.size):=fun h1 h2 h3=>by
  have:=JR (s:=s) (by rw[hd];simp only;rw[hu];exact h1) (by rw[hd];simp only;rw[hu];exact h2) (by rw[hd];simp only;rw[hu];simp only;omega) (by rw[hd];simp only;rw[hu];exact h3);rw[hd] at this;simp only at this;rw[hu] at this;exact this
 clear hd hu;cases ac
 ·have HQ:=fk (show qU s=(sI,M) from by rw[HS.out,Vo];simp)
  cases ok
  all_goals
   go_enter func30,ntmps30
   go_wp2_with(first | (go_at_call 64;go_must (refine(zha _ _ _ a3 a1).mono ?_;rw[HD.out]);rintro e w1 ⟨rfl,ar,d1,rfl⟩) | (go_at_call 65;go_must (refine(zp8 _ _ _ a3 aj).mono ?_;rw[HU.out]);rintro e w2 ⟨A,cl,rfl,hF,au,d2,rfl⟩))
   refine Vr (v:=.tuple #[.agg #[C Z 0,C Z 0,C Z 0,C Z 0,J I 0 0],X M]) (by simp[VF,results30,go_sem]) rfl (C6 (x:=sI) HQ.out (FM _ _) gG)
 by_cases h3:3<=l.length
 case neg=>
  have HQ:=fk (show qU s=(sI,M) from by rw[HS.out,Vo];omega);cases ok
  all_goals
   go_enter func30,ntmps30
   go_wp2_with(first | (go_at_call 64;go_must (refine(zha _ _ _ a3 a1).mono ?_;rw[HD.out]);rintro e w1 ⟨rfl,ar,d1,rfl⟩) | (go_at_call 65;go_must (refine(zp8 _ _ _ a3 aj).mono ?_;rw[HU.out]);rintro e w2 ⟨A,cl,rfl,hF,au,d2,rfl⟩))
   refine Vr (v:=.tuple #[.agg #[C Z 0,C Z 0,C Z 0,C Z 0,J I 0 0],X M]) (by simp[VF,results30,go_sem]) rfl (C6 (x:=sI) HQ.out (FM _ _) gG)
 obtain⟨a,b,c,r,rfl⟩:∃ a b c r,l=a::b::c::r:=by
  match l,h3 with
  | a::b::c::r,_=>exact⟨a,b,c,r,rfl⟩
 have ad:=HS.out;by_cases he:li ⟨t,⟨a,b,c,r⟩⟩=s
 ·have HQ:=fk (show qU s=(⟨t,⟨a,b,c,r⟩⟩,H) from by rw[ad,Vs ⟨rfl,h3,he⟩];rfl)
  have az:((li ⟨t,⟨a,b,c,r⟩⟩).toList == s.toList)=H:=by rw[mb];simp[he]
  clear ad he;go_enter func30,ntmps30;go_wp2_with(first | (go_at_call 64;go_must (refine(zha _ _ _ a3 a1).mono ?_;rw[HD.out]);rintro e w1 ⟨rfl,ar,d1,rfl⟩) | (go_at_call 65;go_must (refine(zp8 _ _ _ a3 aj).mono ?_;rw[HU.out]);rintro e w2 ⟨A,cl,rfl,hF,au,d2,rfl⟩));obtain⟨g,a2,a',rfl,a6,a9,al⟩:=ma hF.read (k:=0) gm;obtain⟨g',aq,b',a4,a7,ax,am⟩:=ma hF.read (k:=1) gm;obtain⟨aw,ab,c',a0,a8,ay,an⟩:=ma hF.read (k:=2) gm;simp only[VO,YB,XR] at a4 a0;obtain⟨rfl,rfl⟩:=a4;obtain⟨rfl,rfl⟩:=a0;simp only[VU,Ww,VO] at a6 a7 a8;subst a6 a7 a8;have ai:fQ (t:Int):=LK HD.out;have af:fQ a:=al;have ag:fQ b:=am;have ah:fQ c:=an;obtain⟨A1,aa,a5⟩:=FR me hF.read (k:=3) gm;have ap:∀ W,(Yo 26 (J (F ⟨g,a2,I⟩) (r.length+1+1+1) cl) (F (C Z 3)) I I).run prog W=.ok (J A1 r.length (cl-3)) W:=aa;have ak:=fk (show (zv.sl 3).R _ _ [J A1 r.length (cl-3)] r from a5);have ao:=Wf _ _ a9;simp only at ao;clear aa a5;have aD:r.length<=1099511627000:=by simp only[VC] at av;omega
  have aA:(0:Int)<(r.length:Int)+1+1+1:=fh;have aB:(1:Int)<(r.length:Int)+1+1+1:=fh;have aC:(2:Int)<(r.length:Int)+1+1+1:=fh;rw[Wk] at a9
  go_region_held3 (fun w'=>Vg w' ⟨g,a2,I⟩=F (C Z a)/\Vg w' ⟨g,a2+1,I⟩=F (C Z b)/\Vg w' ⟨g,a2+2,I⟩=F (C Z c)) ((repeat' apply Vm) <;> (first | ((repeat (first | assumption | with_reducible refine zd ?_ _ _ | with_reducible refine zq ?_ _ | with_reducible refine zc ?_));done) | (simp[go_sem];done))) (first
   | (refine Gk rfl (.tmp 42) (.tmp 44) me zI gG gm (Ty.up _ ak.out gG) rfl rfl rfl fh fh ?_;intro B3 c3 aE d3 ae))
  all_goals go_wp2_with(go_at_call 29;go_must ((with_reducible refine(zsC (x:=⟨t,⟨a,b,c,r⟩⟩) ai af ag ah ((ae.same (by repeat (first | with_reducible exact gV.refl _ _ _ | ((with_reducible refine AH ?_ ?_) <;> (simp <;> omega)) | ((with_reducible refine yE ?_ ?_);rotate_left;(simp <;> omega)) | ((with_reducible refine Ag ?_ ?_);rotate_left;(simp <;> omega)) | ((with_reducible refine zb ?_ ?_ ?_);rotate_left;(simp <;> omega);(simp <;> omega)) | with_reducible apply An | ((with_reducible refine gV.more ?_ ?_ _ _);rotate_left;simp <;> omega) | ((with_reducible refine gV.alloc ?_ ?_ _);rotate_left;simp <;> omega) | with_reducible apply gV.drew | with_reducible apply gV.drewN)) (by repeat (first | with_reducible exact gV.refl _ _ _ | ((with_reducible refine AH ?_ ?_) <;> (simp <;> omega)) | ((with_reducible refine yE ?_ ?_);rotate_left;(simp <;> omega)) | ((with_reducible refine Ag ?_ ?_);rotate_left;(simp <;> omega)) | ((with_reducible refine zb ?_ ?_ ?_);rotate_left;(simp <;> omega);(simp <;> omega)) | with_reducible apply An | ((with_reducible refine gV.more ?_ ?_ _ _);rotate_left;simp <;> omega) | ((with_reducible refine gV.alloc ?_ ?_ _);rotate_left;simp <;> omega) | with_reducible apply gV.drew | with_reducible apply gV.drewN))).read) (by simp;omega)).mono ?_));rintro e w4 ⟨rfl,aF,d4,rfl⟩)
  all_goals refine Vr (v:=.tuple #[.agg #[C Z t,C Z a,C Z b,C Z c,J B3 r.length c3],X H]) (by simp[VF,results30,go_sem]) rfl (C6 (x:=⟨t,⟨a,b,c,r⟩⟩) HQ.out (QT (W0:=w) ai af ag ah (((ae.same (by repeat (first | with_reducible exact gV.refl _ _ _ | ((with_reducible refine AH ?_ ?_) <;> (simp <;> omega)) | ((with_reducible refine yE ?_ ?_);rotate_left;(simp <;> omega)) | ((with_reducible refine Ag ?_ ?_);rotate_left;(simp <;> omega)) | ((with_reducible refine zb ?_ ?_ ?_);rotate_left;(simp <;> omega);(simp <;> omega)) | with_reducible apply An | ((with_reducible refine gV.more ?_ ?_ _ _);rotate_left;simp <;> omega) | ((with_reducible refine gV.alloc ?_ ?_ _);rotate_left;simp <;> omega) | with_reducible apply gV.drew | with_reducible apply gV.drewN)) (by repeat (first | with_reducible exact gV.refl _ _ _ | ((with_reducible refine AH ?_ ?_) <;> (simp <;> omega)) | ((with_reducible refine yE ?_ ?_);rotate_left;(simp <;> omega)) | ((with_reducible refine Ag ?_ ?_);rotate_left;(simp <;> omega)) | ((with_reducible refine zb ?_ ?_ ?_);rotate_left;(simp <;> omega);(simp <;> omega)) | with_reducible apply An | ((with_reducible refine gV.more ?_ ?_ _ _);rotate_left;simp <;> omega) | ((with_reducible refine gV.alloc ?_ ?_ _);rotate_left;simp <;> omega) | with_reducible apply gV.drew | with_reducible apply gV.drewN))).fresh (w:=w) (by simp;omega) (by simp;omega)).mw) (Vz _)) gG)
 ·have HQ:=fk (show qU s=(sI,M) from by rw[ad,Vo];rintro⟨_,_,h⟩;exact he h)
  have az:((li ⟨t,⟨a,b,c,r⟩⟩).toList == s.toList)=M:=by rw[mb];simp[he]
  clear ad he;go_enter func30,ntmps30;go_wp2_with(first | (go_at_call 64;go_must (refine(zha _ _ _ a3 a1).mono ?_;rw[HD.out]);rintro e w1 ⟨rfl,ar,d1,rfl⟩) | (go_at_call 65;go_must (refine(zp8 _ _ _ a3 aj).mono ?_;rw[HU.out]);rintro e w2 ⟨A,cl,rfl,hF,au,d2,rfl⟩));obtain⟨g,a2,a',rfl,a6,a9,al⟩:=ma hF.read (k:=0) gm;obtain⟨g',aq,b',a4,a7,ax,am⟩:=ma hF.read (k:=1) gm;obtain⟨aw,ab,c',a0,a8,ay,an⟩:=ma hF.read (k:=2) gm;simp only[VO,YB,XR] at a4 a0;obtain⟨rfl,rfl⟩:=a4;obtain⟨rfl,rfl⟩:=a0;simp only[VU,Ww,VO] at a6 a7 a8;subst a6 a7 a8;have ai:fQ (t:Int):=LK HD.out;have af:fQ a:=al;have ag:fQ b:=am;have ah:fQ c:=an;obtain⟨A1,aa,a5⟩:=FR me hF.read (k:=3) gm;have ap:∀ W,(Yo 26 (J (F ⟨g,a2,I⟩) (r.length+1+1+1) cl) (F (C Z 3)) I I).run prog W=.ok (J A1 r.length (cl-3)) W:=aa;have ak:=fk (show (zv.sl 3).R _ _ [J A1 r.length (cl-3)] r from a5);have ao:=Wf _ _ a9;simp only at ao;clear aa a5;have aD:r.length<=1099511627000:=by simp only[VC] at av;omega
  have aA:(0:Int)<(r.length:Int)+1+1+1:=fh;have aB:(1:Int)<(r.length:Int)+1+1+1:=fh;have aC:(2:Int)<(r.length:Int)+1+1+1:=fh;rw[Wk] at a9
  go_region_held3 (fun w'=>Vg w' ⟨g,a2,I⟩=F (C Z a)/\Vg w' ⟨g,a2+1,I⟩=F (C Z b)/\Vg w' ⟨g,a2+2,I⟩=F (C Z c)) ((repeat' apply Vm) <;> (first | ((repeat (first | assumption | with_reducible refine zd ?_ _ _ | with_reducible refine zq ?_ _ | with_reducible refine zc ?_));done) | (simp[go_sem];done))) (first
   | (refine Gk rfl (.tmp 42) (.tmp 44) me zI gG gm (Ty.up _ ak.out gG) rfl rfl rfl fh fh ?_;intro B3 c3 aE d3 ae))
  all_goals go_wp2_with(go_at_call 29;go_must ((with_reducible refine(zsC (x:=⟨t,⟨a,b,c,r⟩⟩) ai af ag ah ((ae.same (by repeat (first | with_reducible exact gV.refl _ _ _ | ((with_reducible refine AH ?_ ?_) <;> (simp <;> omega)) | ((with_reducible refine yE ?_ ?_);rotate_left;(simp <;> omega)) | ((with_reducible refine Ag ?_ ?_);rotate_left;(simp <;> omega)) | ((with_reducible refine zb ?_ ?_ ?_);rotate_left;(simp <;> omega);(simp <;> omega)) | with_reducible apply An | ((with_reducible refine gV.more ?_ ?_ _ _);rotate_left;simp <;> omega) | ((with_reducible refine gV.alloc ?_ ?_ _);rotate_left;simp <;> omega) | with_reducible apply gV.drew | with_reducible apply gV.drewN)) (by repeat (first | with_reducible exact gV.refl _ _ _ | ((with_reducible refine AH ?_ ?_) <;> (simp <;> omega)) | ((with_reducible refine yE ?_ ?_);rotate_left;(simp <;> omega)) | ((with_reducible refine Ag ?_ ?_);rotate_left;(simp <;> omega)) | ((with_reducible refine zb ?_ ?_ ?_);rotate_left;(simp <;> omega);(simp <;> omega)) | with_reducible apply An | ((with_reducible refine gV.more ?_ ?_ _ _);rotate_left;simp <;> omega) | ((with_reducible refine gV.alloc ?_ ?_ _);rotate_left;simp <;> omega) | with_reducible apply gV.drew | with_reducible apply gV.drewN))).read) (by simp;omega)).mono ?_));rintro e w4 ⟨rfl,aF,d4,rfl⟩)
  all_goals refine Vr (v:=.tuple #[.agg #[C Z 0,C Z 0,C Z 0,C Z 0,J I 0 0],X M]) (by simp[VF,results30,go_sem]) rfl (C6 (x:=sI) HQ.out (FM _ _) gG)
theorem NS:Static prog 26:=⟨_,func26,rfl,gv⟩
theorem OP:Static prog 28:=⟨_,func28,rfl,gv⟩
theorem Jh:Static prog 27:=⟨_,func27,rfl,gv⟩
theorem SJ (x:iy):(li x).size<=12+6*(x.gg.gK.length+3):=by
 unfold li;split
 ·have h1:=pA x.ij
  have h2:=Ir (x.gg.Pc::x.gg.Sp::x.gg.Fp::x.gg.gK);simp only[VC] at h2;rw[V5];omega
 ·exact Vu _
theorem Tz {Vf:PG} {s:gQ} (hx:km x=H)(h:kK Vf s x){t:Nat}(ht:t<x.fu.length){mo:Int}(hm:0<=mo):∃(m:fF)(ws:D Int),x.fu[t]?=F m/\uE x t mo=(⟨t,⟨m.Pc,m.Sp,m.Fp,ws⟩⟩,H)/\ws.length<=1200/\mY ⟨t,⟨m.Pc,m.Sp,m.Fp,ws⟩⟩=H/\
  ∃ r:G,li ⟨t,⟨m.Pc,m.Sp,m.Fp,ws⟩⟩=r/\r.size<=10000/\qU r=(⟨t,⟨m.Pc,m.Sp,m.Fp,ws⟩⟩,H)/\(qU (r++⟨#[0]⟩)).2=M:=by
 obtain⟨m,h1,h2,h3,h4⟩:=QH hx h ht hm;have hl:=I0 m mo;rw[h3] at h2 h4 hl;refine⟨m,_,h1,h2,hl,h4,_,rfl,?_,SC h4 (by simp only at hl |-;omega),RG h4 (by simp only at hl |-;omega) (by decide)⟩;have:=SJ ⟨t,⟨m.Pc,m.Sp,m.Fp,(m.fK.drop m.Sp.toNat).take mo.toNat⟩⟩;simp only at this hl;omega
theorem Hg {B:Nat} {x:iy} (h:qj.R w B [C Z x.ij,C Z x.gg.Pc,C Z x.gg.Sp,C Z x.gg.Fp,J A x.gg.gK.length c] x):fQ x.ij/\fQ x.gg.Pc/\fQ x.gg.Sp/\fQ x.gg.Fp/\(zv.sl 3).R w B [J A x.gg.gK.length c] x.gg.gK:=by
 obtain⟨A0,c0,he,h0,h1,h2,h3,h4⟩:=QE h;simp only[XB,WP,Yv,XR] at he;obtain⟨rfl,rfl⟩:=he;exact⟨h0,h1,h2,h3,h4⟩
end
variable {b:gP}{b0 b1:Int}{p:D fB}{x y:Nat}
theorem Lu (hD:jo p)(hB:kC b=H)(h0:1<=b0/\b0<=9000)(h1:20000<=b1/\b1<=1000000)(hx:(x:Int)<3)(hy:(y:Int)<12) :
  km (zB (zo p b b0 b1) (1+(x:Int)) (1+(y:Int))).1=H/\(zB (zo p b b0 b1) (1+(x:Int)) (1+(y:Int))).1.fo=zo p b b0 b1/\(zB (zo p b b0 b1) (1+(x:Int)) (1+(y:Int))).1.fu=VP (x+1) (qY (zo p b b0 b1)).1/\
  (zB (zo p b b0 b1) (1+(x:Int)) (1+(y:Int))).1.gM=0/\(zB (zo p b b0 b1) (1+(x:Int)) (1+(y:Int))).1.fW=1+(y:Int)/\(zB (zo p b b0 b1) (1+(x:Int)) (1+(y:Int))).1.gO=1+(y:Int):=by
 have a1:=Ea hD.ok hD.short hD.four hB h0 h1
 have hm:zO (qY (zo p b b0 b1)).1=H:=by
  unfold qY;rw[Vs a1];exact Bj.2 ⟨Wn,⟨by show (0:Int)<=1199;decide,by show (1199:Int)<=1200;decide⟩,Xv _,by show (0:Int)<=2;decide⟩
 have hn:(1+(x:Int)).toNat=x+1:=fh
 have hp:km (qq (zo p b b0 b1) (1+(x:Int)).toNat (1+(y:Int)))=H:=by
  rw[hn];refine CK.2 ⟨a1,?_,?_,?_,?_,fun m a0=>?_⟩
  ·show 1<=(VP (x+1) _).length/\(VP (x+1) _).length<=3
   rw[Wn];omega
  ·show 0<=(0:Int)/\(0:Int)<((VP (x+1) _).length:Nat)
   rw[Wn];omega
  ·show 1<=1+(y:Int)/\1+(y:Int)<=1000
   omega
  ·show 1<=1+(y:Int)/\1+(y:Int)<=1+(y:Int)
   omega
  ·have a0:m∈VP (x+1) (qY (zo p b b0 b1)).1:=a0
   rw[XQ a0];exact hm
 have he:zB (zo p b b0 b1) (1+(x:Int)) (1+(y:Int))=(qq (zo p b b0 b1) (1+(x:Int)).toNat (1+(y:Int)),H):=by
  unfold zB;rw[Vs ⟨zr.2 ⟨fh,fh⟩,hp⟩]
 rw[he];refine⟨hp,rfl,?_,rfl,rfl,rfl⟩;show VP _ _=_;rw[hn]
theorem QU (hD:jo p)(hB:kC b=H)(h0:1<=b0/\b0<=9000)(h1:20000<=b1/\b1<=1000000)(hx:(x:Int)<3)(hy:(y:Int)<12) :
  ∃ Vd,kP (zo p b b0 b1) (yL p b (zo p b b0 b1) Vd)/\kK (yL p b (zo p b b0 b1) Vd) (zo p b b0 b1) (zB (zo p b b0 b1) (1+(x:Int)) (1+(y:Int))).1:=by
 have a0:=Ea hD.ok hD.short hD.four hB h0 h1;obtain⟨Vd,hG⟩:=Ro hD.ok hD.short hD.four hB h0 h1;have hp:=(Lu hD hB h0 h1 hx hy).1;rw[(Pe hp).1];exact⟨Vd,hG,PW a0 hG _ _⟩
theorem Ix {w:V} {B:Nat} {x:gB} {A0 A1 A2 A3:N VQ} {c0 c1 c2 c3:Nat} (h:nz.R w B [J A0 x.fo.fw.length c0,J A1 x.fo.fD.length c1,J A2 x.fo.fm.length c2,J A3 x.fu.length c3,C Z x.gM,C Z x.gO,C Z x.fW] x) :
  (jS.sl 103).R w B [J A0 x.fo.fw.length c0] x.fo.fw/\(zv.sl 3).R w B [J A1 x.fo.fD.length c1] x.fo.fD/\(zv.sl 3).R w B [J A2 x.fo.fm.length c2] x.fo.fm/\(lQ.sl 41).R w B [J A3 x.fu.length c3] x.fu/\fQ x.gM/\fQ x.gO/\fQ x.fW:=by
 obtain⟨_,_,_,_,_,_,_,_,he,h0,h1,h2,h3,h4,h5,h6⟩:=PO h;simp only[XB,WP,Yv,XR] at he;obtain⟨⟨rfl,rfl⟩,⟨rfl,rfl⟩,⟨rfl,rfl⟩,⟨rfl,rfl⟩⟩:=he;exact⟨h0,h1,h2,h3,h4,h5,h6⟩
end Go.Proofs.YthgbglbaemelhaaGreat
namespace Go.Proofs.YthgbglbaemelhaaGreat.fnRecords
open Value renaming slice->J,int->C,bool->X
open IntKind renaming i64->Z,wrap->Vl
open Option renaming none->I,some->F
open Obj renaming cells->U
open Bool renaming false->M,true->H
open Go renaming World->V,Calls->VK,Addr->VQ,TypeId->Wl,yielded->Xb
open World renaming cell?->Vg,setCell->Wc,alloc->WJ
open _root_.Int renaming toNat_natCast->Vy
open List renaming replicate->VP
open RowKit renaming intOf->Wj
open Region renaming wanted->V6,ready->Wv,noSelect->XV,Mode->XY,free->YI
open _root_.Go.Proofs.Tryz
open Go.ChangeShapes Go.WideShapes Go.ChangeAt Go.RowKit
open Go.ChangeMaps (open_string shut_string)
theorem own:ownKnob prog.godebug=I:=gU
theorem laidOut:laidOutB prog=H:=gU
theorem walk (w:V)(v:Value)(xs:D UInt8)(hx:(nV.sl 5).R w w.heap.size [v] xs) :
  VK prog 6 #[v] w fun e w'=>e=.returned (X H)/\fy w w':=by
 obtain⟨A,c,rfl,cd,bW⟩:=mQ hx;by_cases hb:xs.length<=1048576
 case neg=>
  have a9:=fk (show decide (1048576<(xs.length:Int))=H from Vv fh);go_enter func6,ntmps6;go_wp2_with(go_at_call 7;refine(zyV _ _ _ _).mono ?_;rw[a9.out];rintro e w1 ⟨rfl,ag⟩);go_ret;exact⟨rfl,ag⟩
 have a9:=fk (show decide (1048576<(xs.length:Int))=M from Vp fh);go_enter func6,ntmps6;go_upto_region 3 with(go_at_call 7;refine(zyV _ _ _ _).mono ?_;rw[a9.out];rintro e w1 ⟨rfl,ag⟩);go_upto_region 4 with(go_at_call 8;refine(zvL (Ty.up _ hx ag) fh).mono ?_;rintro e W2 ⟨p,b,b0,b1,x,y,A2,c2,B0,d0,B1,d1,B2,d2,B3,d3,C0,f0,C1,f1,C2,f2,C3,f3,rfl,hD,hB,aE,aF,bq,am,hP,ad,ai,aY⟩);obtain⟨av,bn,aL,bp,bl,bc⟩:=Lu hD hB aE aF bq am;have bM:my (zo p b b0 b1)<=10000000:=E8 hD.ok hD.short hD.four hB aE aF;have aI:zQ (zB (zo p b b0 b1) (1+(x:Int)) (1+(y:Int))).1<=10003603:=VL (Pf _ _ _) fh;have ay:=fk (QU hD hB aE aF bq am);generalize (kY p b (zo p b b0 b1)).1=Vc at ad |-;generalize (zB (zo p b b0 b1) (1+(x:Int)) (1+(y:Int))).1=Vb at av bn aL bp bl bc aI ay ai |-;have e4:=Vj W2 (U #[J B0 Vc.fo.fw.length d0,J B1 Vc.fo.fD.length d1,J B2 Vc.fo.fm.length d2,J B3 Vc.gX.length d3] 31);have e5:=Vj (W2.alloc (U #[J B0 Vc.fo.fw.length d0,J B1 Vc.fo.fD.length d1,J B2 Vc.fo.fm.length d2,J B3 Vc.gX.length d3] 31)) (U #[J C0 Vb.fo.fw.length f0,J C1 Vb.fo.fD.length f1,J C2 Vb.fo.fm.length f2,J C3 Vb.fu.length f3,C Z Vb.gM,C Z Vb.gO,C Z Vb.fW] 34);have e4:=zj e4 (show fy _ ((W2.alloc (U #[J B0 Vc.fo.fw.length d0,J B1 Vc.fo.fD.length d1,J B2 Vc.fo.fm.length d2,J B3 Vc.gX.length d3] 31)).alloc (U #[J C0 Vb.fo.fw.length f0,J C1 Vb.fo.fD.length f1,J C2 Vb.fo.fm.length f2,J C3 Vb.fu.length f3,C Z Vb.gM,C Z Vb.gO,C Z Vb.fW] 34)) from gG);rw[VH] at e5;have ah:fy W2 ((W2.alloc (U #[J B0 Vc.fo.fw.length d0,J B1 Vc.fo.fD.length d1,J B2 Vc.fo.fm.length d2,J B3 Vc.gX.length d3] 31)).alloc (U #[J C0 Vb.fo.fw.length f0,J C1 Vb.fo.fD.length f1,J C2 Vb.fo.fm.length f2,J C3 Vb.fu.length f3,C Z Vb.gM,C Z Vb.gO,C Z Vb.fW] 34)):=gG;obtain⟨g4,ak⟩:∃ q,W2.heap.size=q:=⟨_,rfl⟩
 obtain⟨g5,bb⟩:∃ q,g4+1=q:=⟨_,rfl⟩
 rw[ak] at e4 e5 |-;rw[bb] at e5 |-;have ai:=Ty.up _ ai ah;have ad:=Ty.up _ ad ah;have hP:=Ty.up _ hP ah;have aD:=(ag.trans aY).trans ah;clear ah ak bb ag aY;generalize ((W2.alloc _).alloc _)=U4 at e4 e5 ai ad hP aD |-;have bT:=fk e4;have bU:=fk e5;have aW:=fk aD;have bS:=fk ad;have HP:=fk hP;clear e4 ad hP aD a9;obtain⟨X0,X1,X2,X3,bN,bJ,bL⟩:=Ix ai;obtain⟨D0,b7,aZ⟩:=ay.out;have c1:=IY xs 0;have c3:=IY xs 1;obtain⟨Q0,ab⟩:∃ Q0,tK Vb (rG xs 0:Int)=Q0:=⟨_,rfl⟩
 have bk:Q0=oR (rG xs 0) Vb []:=by rw[<-ab];unfold tK;rw[Vs ⟨av,zr.2 ⟨fh,fh⟩⟩,Vy]
 have b9:=If (rG xs 0) Vb [];have aw:=Iw (rG xs 0) Vb [] av;have ar:=kK.run b7 (rG xs 0) [] aZ;have bg:=(KE (rG xs 0) Vb []).1;rw[<-bk] at b9 aw ar bg;have a3:=fk (fun(W:V) (hg:fy U4 W)=>zzs (x:=Vb) (limit:=(rG xs 0:Int)) (Ty.up _ X0 hg) (Ty.up _ X1 hg) (Ty.up _ X2 hg) (Ty.up _ X3 hg) bN bJ bL ⟨fh,fh⟩ fh);rw[ab] at a3;obtain⟨P,bP⟩:=Q0;obtain⟨l9,-,-,-,-,ac,-⟩:=b9;simp only at ac aw ar bg a3;have bV:0<P.fu.length/\P.fu.length<=3:=by rw[ac,aL,Wn];omega
 have bx:=fk aw;have bs:=fk ar;have HX:=fk hx;have HZ:=aW;clear l9 ab bk ac aw ar b7 aZ ay av bn aL bp bl bc bM;obtain⟨aM,aN,aO,aP,aQ,aR,aS,bQ,bR⟩:=jb e5;have SZ:∀{W9:V},fy U4 W9->Vg W9 ⟨g5,0,I⟩=F (J C0 Vb.fo.fw.length f0)/\Vg W9 ⟨g5,1,I⟩=F (J C1 Vb.fo.fD.length f1)/\Vg W9 ⟨g5,2,I⟩=F (J C2 Vb.fo.fm.length f2)/\Vg W9 ⟨g5,3,I⟩=F (J C3 Vb.fu.length f3)/\Vg W9 ⟨g5,4,I⟩=F (C Z Vb.gM)/\Vg W9 ⟨g5,5,I⟩=F (C Z Vb.gO)/\Vg W9 ⟨g5,6,I⟩=F (C Z Vb.fW):=fun h=>⟨za h aM,za h aN,za h aO,za h aP,za h aQ,za h aR,za h aS⟩;go_upto_region 5 with(fail);go_cut [6,7] from 25 to 31 (fun v6 v7 wx=>(∃ z,v7=z)/\∃(g11:Nat) (R0:N VQ) (r0:Nat) (R1:N VQ) (r1:Nat) (R2:N VQ) (r2:Nat) (R3:N VQ) (r3:Nat) (U6:D Nat),v6=.pointer (F ⟨g11,0,I⟩)/\wx.heap[g11]?=F (U #[J R0 P.fo.fw.length r0,J R1 P.fo.fD.length r1,J R2 P.fo.fm.length r2,J R3 P.fu.length r3,C Z P.gM,C Z P.gO,C Z P.fW] 34 (0,0))/\nz.O wx [J R0 P.fo.fw.length r0,J R1 P.fo.fD.length r1,J R2 P.fo.fm.length r2,J R3 P.fu.length r3,C Z P.gM,C Z P.gO,C Z P.fW] P U6/\Hid (fy U4 wx))
 case first=>
  refine lO (fun w'=>Vg w' ⟨g5,0,I⟩=F (J C0 Vb.fo.fw.length f0)/\Vg w' ⟨g5,1,I⟩=F (J C1 Vb.fo.fD.length f1)/\Vg w' ⟨g5,2,I⟩=F (J C2 Vb.fo.fm.length f2)/\Vg w' ⟨g5,3,I⟩=F (J C3 Vb.fu.length f3)/\Vg w' ⟨g5,4,I⟩=F (C Z Vb.gM)/\Vg w' ⟨g5,5,I⟩=F (C Z Vb.gO)/\Vg w' ⟨g5,6,I⟩=F (C Z Vb.fW)) 9 gU ⟨zc aM,zc aN,zc aO,zc aP,zc aQ,zc aR,zc aS⟩ (fun hH=>?_);have HG:fy U4 U4.drew:=(fy.refl _).drew;generalize U4.drew=Wx at HG hH |-
  repeat' first
   | (clear M2
      refine rT Jh rfl rfl (zzK (Ty.up _ HX.out (HZ.out.trans HG)) 0 gv fh) ?_ ?_
      ·go_simp
      rintro e Wx ⟨rfl,hg⟩
      refine⟨_,rfl,?_⟩
      try have a0:=zj a0 hg
      try have hF:=nz.jG hF hg
      have HG:=HG.trans hg;clear hg
      refine hK.out _ _ (SZ HG) ?_
      clear hK;have D2:=trivial
      try simp only[iI])
   | (clear M3
      refine rT NS rfl rfl (a3.out Wx HG) ?_ ?_
      ·go_simp
      rintro e Wx ⟨R0,r0,R1,r1,R2,r2,R3,r3,A8,c8,U6,F8,rfl,b5,_,_,af,_,hg⟩
      refine⟨_,rfl,?_⟩
      have hF:=b5.1
      try have nF:=Ca af a0
      try have a0:=zj a0 hg
      have HG:=HG.trans hg;clear hg b5 af
      refine hK.out _ _ (SZ HG) ?_
      clear hK;have D3:=trivial
      try simp only[iI])
   | (clear M7
      go_simp
      have hg:fy Wx (Wx.alloc (U #[J I 0 0,J I 0 0,J I 0 0,J I 0 0,C Z 0,C Z 0,C Z 0] 34)):=(fy.refl _).alloc _;have a0:=Vj Wx (U #[J I 0 0,J I 0 0,J I 0 0,J I 0 0,C Z 0,C Z 0,C Z 0] 34);have aT:=HG.size
      try have nF:∀ q∈U6,q≠Wx.heap.size:=fun q hq=>YO (nz.jQ hF q hq)
      try have hF:=nz.jG hF hg
      have HG:=HG.trans hg;clear hg
      refine hK.out _ _ (SZ HG) ?_
      clear hK
      generalize hq:Wx.heap.size=g11 at a0 aT |-
      try rw[hq] at nF
      clear hq;obtain⟨Wx,hW⟩:∃ Va,WJ Wx (U #[J I 0 0,J I 0 0,J I 0 0,J I 0 0,C Z 0,C Z 0,C Z 0] 34)=Va:=⟨_,rfl⟩;rw[hW] at a0 HG |-
      try rw[hW] at hF
      clear hW;have D7:=trivial
      try simp only[iI])
   | (clear M8
      go_simp
      obtain⟨t0,t1,t2,t3,t4,t5,t6,tf,tl⟩:=jb a0
      go_simp
      obtain⟨e9,o9⟩:=qT a0 (J R0 P.fo.fw.length r0) (J R1 P.fo.fD.length r1) (J R2 P.fo.fm.length r2) (J R3 P.fu.length r3) (C Z P.gM) (C Z P.gO) (C Z P.fW)
      have hF:=nz.iA hF (fun q hq=>o9.block q (nz.jQ hF q hq) (by simpa using nF q hq))
      have HG:=o9.fH HG (fun b hb=>by simp only[Vi] at hb;omega)
      refine hK.out _ _ (SZ HG) ?_
      clear hK t0 t1 t2 t3 t4 t5 t6 tf tl a0 o9
      generalize Wc (Wc (Wc (Wc (Wc (Wc (Wc Wx _ _) _ _) _ _) _ _) _ _) _ _) _ _=W9 at e9 hF HG |-
      have D8:=trivial
      try simp only[iI])
   | ((fail_if_success clear T0);refine fL.st 0 [9] (SZ HG) ?_;have T0:=trivial;try simp only[iI])
   | ((fail_if_success clear T1);refine fL.st 1 [9] (SZ HG) ?_;have T1:=trivial;try simp only[iI])
   | ((fail_if_success clear T4);revert D2 D3;intro D2 D3;refine fL.st 4 [9] (SZ HG) ?_;have T4:=trivial;try simp only[iI])
   | ((fail_if_success clear T5);revert D2 D3;intro D2 D3;refine fL.st 5 [9] (SZ HG) ?_;have T5:=trivial;try simp only[iI])
   | ((fail_if_success clear T6);revert D2 D3;intro D2 D3;refine fL.st 6 [9] (SZ HG) ?_;have T6:=trivial;try simp only[iI])
   | (revert D2 D3 D7 D8;intro D2 D3 D7 D8
      refine fL.sl (fun K hK=>?_)
      go_simp
      refine hK.out _ _ ?_
      clear hK
      try simp only[iI]
      go_wp2_with(fail)
      go_meet
      exact⟨⟨_,rfl⟩,g11,R0,r0,R1,r1,R2,r2,R3,r3,U6,rfl,e9,hF,fk HG⟩)
   | (revert D2 D3 D7;intro D2 D3 D7;refine fL.s1 8 (fun K hK=>(fun M8:True=>?_) trivial))
   | (revert D2 D3;intro D2 D3;refine fL.s1 7 (fun K hK=>(fun M7:True=>?_) trivial))
   | (revert D2 D7;intro D2 D7;refine fL.s1 3 (fun K hK=>(fun M3:True=>?_) trivial))
   | (revert D2;intro D2;refine fL.s2 3 7 (fun K hK=>(fun M3:True=>?_) trivial) (fun K hK=>(fun M7:True=>?_) trivial))
   | (revert D7;intro D7;refine fL.s1 2 (fun K hK=>(fun M2:True=>?_) trivial))
   | (refine fL.s2 2 7 (fun K hK=>(fun M2:True=>?_) trivial) (fun K hK=>(fun M7:True=>?_) trivial))
 obtain⟨⟨zz,rfl⟩,g6,R0,r0,R1,r1,R2,r2,R3,r3,F0,rfl,e6,hO,az⟩:=hcut;clear aM aN aO aP aQ aR aS bQ bR SZ a3;have b8:=Ty.read _ hO;obtain⟨P0,P1,P2,P3,c0,bY,bZ⟩:=Ix b8;have ax:=fk e6;have bF:=fk (Ty.up _ HX.out (HZ.out.trans az.out));have bt:=fk (HZ.out.trans az.out);clear e6 hO b8 az HX X0 X1 X2 X3 HZ aW;obtain⟨Va,rfl⟩:∃ Va,Va=wc:=⟨_,rfl⟩
 obtain⟨y0,y1,y2,y3,y4,y5,y6,yf,yl⟩:=jb ax.out;go_wp2_with(fail);go_loopw [8] (fun z wr=>∃ t:Nat,z=C Z (t:Int)/\t<=P.fu.length/\Hid (fy Va wr)) (fun z _=>P.fu.length-(Wj z).toNat)
 case atStart=>exact⟨0,rfl,Vu _,fk (fy.refl _)⟩
 clear y0 y1 y2 y3 y4 y5 y6 yf yl;obtain⟨t,rfl,c6,a5⟩:=hrel;obtain⟨y0,y1,y2,y3,y4,y5,y6,yf,yl⟩:=jb (zj ax.out a5.out);by_cases htlt:t<P.fu.length
 ·have bO:(t:Int)<(P.fu.length:Int):=fh
  have cc:Vl Z ((t:Int)+1)=(t:Int)+1:=iw;obtain⟨mo,be⟩:∃ q:Int,(rG xs 1:Int)*5=q:=⟨_,rfl⟩
  have c7:Vl Z ((rG xs 1:Int)*5)=mo:=by rw[be];exact iw
  have bK:0<=mo/\mo<=1280:=fh;clear be;obtain⟨m,ws,bf,bo,ca,bm,r,bj,c4,bh,bi⟩:=Tz bx.out bs.out htlt bK.1;have bE:=fk bo;have bD:=fk bm;have bC:=fk bj;have bA:=fk bh;have bB:=fk bi;have HX:=bF;have a6:=fk (fun(W:V) (hg:fy wr W)=>zzx (x:=P) (th:=(t:Int)) (most:=mo) (Ty.up _ P0 (a5.out.trans hg)) (Ty.up _ P1 (a5.out.trans hg)) (Ty.up _ P2 (a5.out.trans hg)) (Ty.up _ P3 (a5.out.trans hg)) fh ⟨fh,fh⟩ ⟨fh,fh⟩);have bw:=fk bf;clear bo bm bj bh bi bf;have SZ:∀{W9:V},fy wr W9->Vg W9 ⟨g6,0,I⟩=F (J R0 P.fo.fw.length r0)/\Vg W9 ⟨g6,1,I⟩=F (J R1 P.fo.fD.length r1)/\Vg W9 ⟨g6,2,I⟩=F (J R2 P.fo.fm.length r2)/\Vg W9 ⟨g6,3,I⟩=F (J R3 P.fu.length r3)/\Vg W9 ⟨g6,4,I⟩=F (C Z P.gM)/\Vg W9 ⟨g6,5,I⟩=F (C Z P.gO)/\Vg W9 ⟨g6,6,I⟩=F (C Z P.fW):=fun h=>⟨za h y0,za h y1,za h y2,za h y3,za h y4,za h y5,za h y6⟩;go_upto_region 8 with(fail);go_cut [9,10] from 38 to 47 (fun v9 v10 wx=>v10=X H/\∃(g11:Nat) (A5:N VQ) (c5:Nat) (U6:D Nat),v9=.pointer (F ⟨g11,0,I⟩)/\wx.heap[g11]?=F (U #[C Z (t:Int),C Z m.Pc,C Z m.Sp,C Z m.Fp,J A5 ws.length c5] 51 (0,0))/\qj.O wx [C Z (t:Int),C Z m.Pc,C Z m.Sp,C Z m.Fp,J A5 ws.length c5] (⟨(t:Int),⟨m.Pc,m.Sp,m.Fp,ws⟩⟩:iy) U6/\Hid (fy wr wx))
  case first=>
   have HZ:=a5;refine lO (fun w'=>Vg w' ⟨g6,0,I⟩=F (J R0 P.fo.fw.length r0)/\Vg w' ⟨g6,1,I⟩=F (J R1 P.fo.fD.length r1)/\Vg w' ⟨g6,2,I⟩=F (J R2 P.fo.fm.length r2)/\Vg w' ⟨g6,3,I⟩=F (J R3 P.fu.length r3)/\Vg w' ⟨g6,4,I⟩=F (C Z P.gM)/\Vg w' ⟨g6,5,I⟩=F (C Z P.gO)/\Vg w' ⟨g6,6,I⟩=F (C Z P.fW)) 11 gU ⟨zc y0,zc y1,zc y2,zc y3,zc y4,zc y5,zc y6⟩ (fun hH=>?_);have HG:fy wr wr.drew:=(fy.refl _).drew;generalize wr.drew=Wx at HG hH |-
   repeat' first
    | (clear M3
       refine rT Jh rfl rfl (zzK (Ty.up _ HX.out (HZ.out.trans HG)) 1 gv fh) ?_ ?_
       ·go_simp
       rintro e Wx ⟨rfl,hg⟩
       refine⟨_,rfl,?_⟩
       try have a0:=zj a0 hg
       try have hF:=qj.jG hF hg
       have HG:=HG.trans hg;clear hg
       refine hK.out _ _ (SZ HG) ?_
       clear hK;have D3:=trivial
       try simp only[iI])
    | (clear M5
       refine rT OP rfl rfl (a6.out Wx HG) ?_ ?_
       ·go_simp
       rintro e Wx ⟨A5,c5,rfl,aC,hg⟩
       refine⟨_,rfl,?_⟩
       simp only[bE.out] at aC |-
       obtain⟨U6,aX,af⟩:=aC.has;have hF:=aX.1
       try have nF:=Ca af a0
       try have a0:=zj a0 hg
       have HG:=HG.trans hg;clear hg aC aX af
       refine hK.out _ _ (SZ HG) ?_
       clear hK;have D5:=trivial
       try simp only[iI])
    | (clear M9
       go_simp
       have hg:fy Wx (Wx.alloc (U #[C Z 0,C Z 0,C Z 0,C Z 0,J I 0 0] 51)):=(fy.refl _).alloc _;have a0:=Vj Wx (U #[C Z 0,C Z 0,C Z 0,C Z 0,J I 0 0] 51);have aT:=HG.size
       try have nF:∀ q∈U6,q≠Wx.heap.size:=fun q hq=>YO (qj.jQ hF q hq)
       try have hF:=qj.jG hF hg
       have HG:=HG.trans hg;clear hg
       refine hK.out _ _ (SZ HG) ?_
       clear hK
       generalize hq:Wx.heap.size=g11 at a0 aT |-
       try rw[hq] at nF
       clear hq;obtain⟨Wx,hW⟩:∃ Va,WJ Wx (U #[C Z 0,C Z 0,C Z 0,C Z 0,J I 0 0] 51)=Va:=⟨_,rfl⟩;rw[hW] at a0 HG |-
       try rw[hW] at hF
       clear hW;have D9:=trivial
       try simp only[iI])
    | (clear M10
       go_simp
       obtain⟨t0,t1,t2,t3,t4,tf,tl⟩:=jO a0
       go_simp
       obtain⟨e9,o9⟩:=uF a0 (C Z (t:Int)) (C Z m.Pc) (C Z m.Sp) (C Z m.Fp) (J A5 ws.length c5)
       have hF:=qj.iA hF (fun q hq=>o9.block q (qj.jQ hF q hq) (by simpa using nF q hq))
       have HG:=o9.fH HG (fun b hb=>by simp only[Vi] at hb;omega)
       refine hK.out _ _ (SZ HG) ?_
       clear hK t0 t1 t2 t3 t4 tf tl a0 o9
       generalize Wc (Wc (Wc (Wc (Wc Wx _ _) _ _) _ _) _ _) _ _=W9 at e9 hF HG |-
       have aU:=trivial
       try simp only[iI])
    | ((fail_if_success clear T0);refine fL.st 0 [11] (SZ HG) ?_;have T0:=trivial;try simp only[iI])
    | ((fail_if_success clear T1);refine fL.st 1 [11] (SZ HG) ?_;have T1:=trivial;try simp only[iI])
    | ((fail_if_success clear T2);refine fL.st 2 [11] (SZ HG) ?_;have T2:=trivial;try simp only[iI])
    | ((fail_if_success clear T4);revert D3;intro D3;refine fL.st 4 [11] (SZ HG) ?_;have T4:=trivial;try simp only[iI])
    | ((fail_if_success clear T6);revert D3 D5;intro D3 D5;refine fL.st 6 [11] (SZ HG) ?_;have T6:=trivial;try simp only[iI])
    | ((fail_if_success clear T7);revert D3 D5;intro D3 D5;refine fL.st 7 [11] (SZ HG) ?_;have T7:=trivial;try simp only[iI])
    | ((fail_if_success clear T8);revert D3 D5;intro D3 D5;refine fL.st 8 [11] (SZ HG) ?_;have T8:=trivial;try simp only[iI])
    | (revert D3 D5 D9 aU;intro D3 D5 D9 aU
       refine fL.sl (fun K hK=>?_)
       go_simp
       refine hK.out _ _ ?_
       clear hK
       try simp only[iI]
       go_wp2_with(fail)
       go_meet
       exact⟨rfl,g11,A5,c5,U6,rfl,e9,hF,fk HG⟩)
    | (revert D3 D5 D9;intro D3 D5 D9;refine fL.s1 10 (fun K hK=>(fun M10:True=>?_) trivial))
    | (revert D3 D5;intro D3 D5;refine fL.s1 9 (fun K hK=>(fun M9:True=>?_) trivial))
    | (revert D3 D9;intro D3 D9;refine fL.s1 5 (fun K hK=>(fun M5:True=>?_) trivial))
    | (revert D3;intro D3;refine fL.s2 5 9 (fun K hK=>(fun M5:True=>?_) trivial) (fun K hK=>(fun M9:True=>?_) trivial))
    | (revert D9;intro D9;refine fL.s1 3 (fun K hK=>(fun M3:True=>?_) trivial))
    | (refine fL.s2 3 9 (fun K hK=>(fun M3:True=>?_) trivial) (fun K hK=>(fun M9:True=>?_) trivial))
  obtain⟨rfl,g9,A5,c5,F9,rfl,e9,b6,bu⟩:=hcut;clear SZ a6 HX y0 y1 y2 y3 y4 y5 y6 yf yl;obtain⟨p0,p1,p2,p3,an⟩:=Hg (x:=(⟨(t:Int),⟨m.Pc,m.Sp,m.Fp,ws⟩⟩:iy)) (Ty.read _ b6);simp only at p0 p1 p2 p3 an;obtain⟨z0,z1,z2,z3,z4,zf,zl⟩:=jO e9;have aK:(r++(⟨#[0]⟩:G)).size<=1099511627000:=by rw[V5];show r.size+1<=_;omega
  obtain⟨q2,aJ⟩:∃ q,qU (r++(⟨#[0]⟩:G))=q:=⟨_,rfl⟩
  obtain⟨S2,b2⟩:=q2;have a9:=bB.out;rw[aJ] at a9;simp only at a9;subst a9;have bz:=fk aJ;clear aJ b6;go_upto_region 10 with(go_at_call 29;(with_reducible refine(zsC (x:=(⟨(t:Int),⟨m.Pc,m.Sp,m.Fp,ws⟩⟩:iy)) p0 p1 p2 p3 an (by simp only;omega)).mono ?_);rw[bC.out];rintro e w3 ⟨rfl,ba⟩);go_upto_region 11 with(go_at_call 30;refine(zwA r _ fh).mono ?_;rw[bA.out];rintro e w4 ⟨B5,d5,rfl,aB,ak⟩)
  try simp only at aB
  have a8:=aB.read;have aa:=Vj w4 (U #[C Z (t:Int),C Z m.Pc,C Z m.Sp,C Z m.Fp,J B5 ws.length d5] 51);have aG:fy w4 (w4.alloc (U #[C Z (t:Int),C Z m.Pc,C Z m.Sp,C Z m.Fp,J B5 ws.length d5] 51)):=(fy.refl _).alloc _;have a8:=Ty.up _ a8 aG;have a7:=(ba.trans ak).trans aG;obtain⟨ae,aj⟩:∃ q,w4.heap.size=q:=⟨_,rfl⟩
  rw[aj] at aa |-;clear aj aG aB ba ak z0 z1 z2 z3 z4 zf zl;generalize (w4.alloc _)=w6 at aa a8 a7 |-;go_upto_region 12 with(go_at_call 30;refine(zwA (r++(⟨#[0]⟩:G)) _ aK).mono ?_;rw[bz.out];rintro e w7 ⟨B6,d6,rfl,bH,aq⟩);clear bH;have au:fy w7 (w7.alloc (U #[C Z S2.ij,C Z S2.gg.Pc,C Z S2.gg.Sp,C Z S2.gg.Fp,J B6 S2.gg.gK.length d6] 51)):=(fy.refl _).alloc _;have aa:=zj aa (aq.trans au);have a8:=Ty.up _ a8 (aq.trans au);have a7:=a7.trans (aq.trans au);clear au aq;generalize (w7.alloc _)=wq at aa a8 a7 |-;have ao:=(a5.out.trans bu.out).trans a7;obtain⟨b0,b1,b2,b3,b4,_,_⟩:=jO aa;obtain⟨_,_,_,_,a4,_,_⟩:=jO (zj e9 a7);obtain⟨_,_,_,y3,_,_,_,_,_⟩:=jb (zj ax.out ao);obtain⟨gn,on,m',G3,l3,G4,l4,bG,bI,bd,q0,q1,_,_,_,_,_,_⟩:=Bz (Ty.up _ P3 ao) (k:=t) htlt;obtain rfl:m=m':=by have h:=bw.out;rw[bd] at h;injection h with h;exact h.symm
  subst bG;obtain⟨_,_,_,_,aA⟩:=Hg (x:=(⟨(t:Int),⟨m.Pc,m.Sp,m.Fp,ws⟩⟩:iy)) a8;simp only at aA;have aV:=fk aA;have br:=fk (Ty.up _ an a7);have bv:=fk ao;clear aA a8 an aa e9 a7 ao bd bI;refine lO (fun w'=>Vg w' ⟨ae,0,I⟩=F (C Z (t:Int))/\Vg w' ⟨ae,1,I⟩=F (C Z m.Pc)/\Vg w' ⟨ae,2,I⟩=F (C Z m.Sp)/\Vg w' ⟨ae,3,I⟩=F (C Z m.Fp)/\Vg w' ⟨ae,4,I⟩=F (J B5 ws.length d5)/\Vg w' ⟨g9,4,I⟩=F (J A5 ws.length c5)/\Vg w' ⟨g6,3,I⟩=F (J (F ⟨gn,on,I⟩) P.fu.length r3)/\Vg w' ⟨gn,on+t*7,I⟩=F (C Z m.Pc)/\Vg w' ⟨gn,on+t*7+1,I⟩=F (C Z m.Sp)) 53 gU (Vm (zc b0) (Vm (zc b1) (Vm (zc b2) (Vm (zc b3) (Vm (zc b4) (Vm (zc a4) (Vm (zc y3) (Vm (zc q0) (zc q1))))))))) (fun hH=>?_);have ap:fy wq wq.drew:=(fy.refl _).drew;clear b0 b1 b2 b3 b4 a4 y3 q0 q1;generalize wq.drew=wx at ap hH |-;obtain⟨b0,b1,b2,b3,b4,a4,y3,q0,q1⟩:=id hH;refine .tk 0 [1,2,6,9,15,27,39,48,49,53] hH ?_;refine .tk 1 [2,6,9,15,27,39,48,49,53] hH ?_;refine .tk 2 [6,9,15,27,39,48,49,53] hH ?_;refine .tk 3 [4,5,6,9,15,27,39,48,49,53] hH ?_;refine .tk 4 [5,6,9,15,27,39,48,49,53] hH ?_;refine .tk 5 [6,9,15,27,39,48,49,53] hH ?_;refine .tk 6 [9,15,27,39,48,49,53] hH ?_;refine .tk 7 [8,9,15,27,39,48,49,53] hH ?_;refine .tk 8 [9,15,27,39,48,49,53] hH ?_;refine .tk 9 [15,27,39,48,49,53] hH ?_;refine .tk 10 [11,13,14,15,27,39,48,49,53] hH ?_;refine .tk 11 [13,14,15,27,39,48,49,53] hH ?_;refine .tk 12 [13,14,15,27,39,48,49,53] hH ?_;refine .tk 13 [14,15,27,39,48,49,53] hH ?_;refine .tk 14 [15,27,39,48,49,53] hH ?_;refine .tk 15 [27,39,48,49,53] hH ?_;refine .tk 16 [17,18,25,26,27,39,48,49,53] hH ?_;refine .tk 17 [18,25,26,27,39,48,49,53] hH ?_;refine .tk 18 [25,26,27,39,48,49,53] hH ?_;refine .tk 19 [20,22,23,24,25,26,27,39,48,49,53] hH ?_;refine .tk 20 [22,23,24,25,26,27,39,48,49,53] hH ?_;refine .tk 21 [22,23,24,25,26,27,39,48,49,53] hH ?_;refine .tk 22 [23,24,25,26,27,39,48,49,53] hH ?_;refine .tk 23 [24,25,26,27,39,48,49,53] hH ?_;refine .tk 24 [25,26,27,39,48,49,53] hH ?_;refine .tk 25 [26,27,39,48,49,53] hH ?_;refine .tk 26 [27,39,48,49,53] hH ?_;refine .tk 27 [39,48,49,53] hH ?_;refine .tk 28 [29,30,37,38,39,48,49,53] hH ?_;refine .tk 29 [30,37,38,39,48,49,53] hH ?_;refine .tk 30 [37,38,39,48,49,53] hH ?_;refine .tk 31 [32,34,35,36,37,38,39,48,49,53] hH ?_;refine .tk 32 [34,35,36,37,38,39,48,49,53] hH ?_;refine .tk 33 [34,35,36,37,38,39,48,49,53] hH ?_;refine .tk 34 [35,36,37,38,39,48,49,53] hH ?_;refine .tk 35 [36,37,38,39,48,49,53] hH ?_;refine .tk 36 [37,38,39,48,49,53] hH ?_;refine .tk 37 [38,39,48,49,53] hH ?_;refine .tk 38 [39,48,49,53] hH ?_;refine .tk 39 [48,49,53] hH ?_;refine .tk 40 [41,42,46,49,53] hH ?_;refine .tk 41 [42,46,49,53] hH ?_;refine .tk 42 [46,49,53] hH ?_;refine .tk 43 [44,45,46,49,53] hH ?_;refine .tk 44 [45,46,49,53] hH ?_;refine .tk 45 [46,49,53] hH ?_;refine fL.one (i:=46) gU rfl (fun K hK=>?_);go_simp;go_at_call 12;refine(ztg (Ty.up _ aV.out ap) (Ty.up _ br.out ap) fh).mono ?_;rintro e v1 ⟨rfl,a1⟩;have al:=ap.trans a1;have b0:=za a1 b0;have b1:=za a1 b1;have b2:=za a1 b2;have b3:=za a1 b3;have b4:=za a1 b4;have a4:=za a1 a4;have y3:=za a1 y3;have q0:=za a1 q0;have q1:=za a1 q1;refine hK.out _ _ (Vm b0 (Vm b1 (Vm b2 (Vm b3 (Vm b4 (Vm a4 (Vm y3 (Vm q0 q1)))))))) (fun hI=>?_);clear hK hH;have hH:=hI
  try simp only[lay]
  refine .tk 47 [48,49,53] hH ?_;refine .tk 48 [49,53] hH ?_;refine .tk 49 [53] hH ?_;refine .tk 50 [51,52,53] hH ?_;refine fL.one (i:=51) gU rfl (fun K hK=>?_);go_simp;go_at_call 31
  with_reducible refine(zfY (x:=(⟨(t:Int),⟨m.Pc,m.Sp,m.Fp,ws⟩⟩:iy)) (Ty.up _ aV.out al) (by simp only;omega)).mono ?_;rw[bD.out]
  rintro e v2 ⟨rfl,a2⟩;have aH:=al.trans a2;have b0:=za a2 b0;have b1:=za a2 b1;have b2:=za a2 b2;have b3:=za a2 b3;have b4:=za a2 b4;have a4:=za a2 a4;have y3:=za a2 y3;have q0:=za a2 q0;have q1:=za a2 q1;refine hK.out _ _ (Vm b0 (Vm b1 (Vm b2 (Vm b3 (Vm b4 (Vm a4 (Vm y3 (Vm q0 q1)))))))) (fun hI=>?_);clear hK hH;have hH:=hI
  try simp only[lay]
  refine .tk 52 [53] hH ?_;refine fL.last gU rfl gU (fun K hK=>?_);go_simp;refine hK.out _ _ ?_;clear hK
  try simp only[lay]
  go_wp2_with(fail);go_roundw;exact⟨t+1,io,fh,fk (bv.out.trans aH)⟩;exact iC
 ·obtain rfl:t=P.fu.length:=fh
  have bO:¬ ((P.fu.length:Int)<(P.fu.length:Int)):=fh;have bX:(P.fu.length:Int) > 0:=fh;go_wp2_with(fail);go_ret;exact⟨rfl,bt.out.trans a5.out⟩
theorem lifted (os:Os)(started:os.Started)(U9:Type)(enc:Wl × Value->U9) :
  ReturnsInHanded {} Tryz.checked os 6 .any (Rows.fnRecordsSpec.pre6 enc prog f6 Rows.fnRecordsRow.domain M) (Rows.fnRecordsSpec.post enc prog f6 M H M M):=by
 refine returnsInHanded_of_change (C:=Tryz.checked) own started gU func6
  (ChangeSpec.witness6 (enc:=enc) (C:=Tryz.checked) M ⟨#[],#[J I 0 0],[]⟩ 8 gU gU gU gU) ?_
 intro W base a1 ds gs a4 a2 hW a9 _;have a3:∀(j:Nat) t v,f6.params[j]?=F t->a1[j]?=F v->Value.okWide prog W .any base t v:=a2;have a8:=hW;obtain⟨p,q,a6,hV,rfl,ac,ad⟩:=hW;have hA:DataW.TrodAll enc prog W 0 (fun _=>H) H f6.params.toList a1.toList ds p:=a6;rw[Tryz.params6] at hA a3;obtain⟨v0,ae,d0,ab,p0,q0,a7,rfl,rfl,h0,r0⟩:=trodAll_cons hA;obtain⟨rfl,rfl,rfl⟩:=trodAll_nil r0;obtain rfl:a1=#[v0]:=by cases a1;simp_all
 obtain⟨rfl,rfl⟩:=trodVars_none hV;have k0:=h0;have aa:∀ x∈p0,x.block<W.heap.size:=by obtain⟨m,hm⟩:=k0;exact DataW.trod_lt m _ _ _ hm
 obtain⟨a0,w0⟩:=Sg (RA (e':=5) underlying22 gU gv (Pm underlying5)) h0;rw[Qw underlying22 (a3 0 22 v0 rfl rfl)] at w0;clear a6 a2;refine(walk W v0 a0 w0).mono fun e W' ⟨he,hgro⟩=>?_;subst he;have a5:=hgro.below;exact⟨_,rfl,_,_,_,[],_,[],a8,trodAll_mk1 (shut_bool underlying4 _),(trodAll_cons_mk (Below.trod laidOut gU (XH gU) k0 a5 aa) trodAll_mk0),rfl,a5.frame _,fun h=>by cases h⟩
theorem over:Rows.fnRecordsRow.holds Tryz.pinned (OpenSpec.ofChange Rows.fnRecordsSpec):=
 OpenClaim.holds_of_wide 6 f6 rfl rfl rfl rfl rfl rfl rfl ⟨rfl,rfl,rfl,rfl,rfl⟩ rfl rfl rfl rfl rfl gU func6 gU
  (XH gU) (by unfold Func.isWrapper;first | (rw[Vs (by decide +kernel)];kernel_rfl) | (rw[Vo (by decide +kernel)];exact⟨rfl,rfl⟩))
  (fun os started U9 enc _=>lifted os started U9 enc)
theorem proved:Rows.FnRecordsSaid:=over
#print axioms proved
end Go.Proofs.YthgbglbaemelhaaGreat.fnRecords
