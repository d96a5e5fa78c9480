/-
  PART.
-/
import Derived.Test.YthgbglbaemelhaaGreatM9LawRecords
set_option linter.unusedVariables false
set_option linter.unusedSimpArgs false
set_option maxRecDepth 100000
set_option maxHeartbeats 8000000
namespace Go.Proofs.YthgbglbaemelhaaGreat
open Value renaming slice->J,int->C,bool->X,string->Q
open IntKind renaming i64->Z,wrap->Vl
open Option renaming none->I,some->F
open Obj renaming cells->U
open Bool renaming false->M,true->H
open Go renaming World->V,results->VF,Calls->VK,Addr->VQ,TypeId->Wl,madeCells->WO,yielded->Xb
open World renaming cell?->Vg,frozen?->VE,alloc->WJ
open _root_.Int renaming toNat_natCast->Vy
open List renaming length_cons->VC,replicate->VP,length_nil->VZ,length_singleton->Wi,take_succ_cons->Wz,take_zero->Xk
open RowKit renaming intOf->Wj
open _root_.Nat renaming add_zero->Wk
open Ending renaming returned->XA
open Region renaming wanted->V6,ready->Wv,noSelect->XV,Mode->XY,free->YI
open Tryz
open Go.RowKit
variable {Ae Ah:N VQ}{B:D (Nat × Obj)}{L' L0 Se Sh:D Nat}{P:kw}{R0:D (D Value)}{T:jy}{W w2 wr:V}{a b ce ch d g i j k:Nat}{ft hd gj lv:D Int}{item line:Int}{m:gA}{p:D fB}{s:fV}{xl:fB}
theorem FN:∀(l:D fB)(i:Nat),∀ x∈lJ l i,(i:Int)<=x
 | [],_,x,h=>by cases h
 | y::r,i,x,h=>by
  unfold lJ at h;split at h
  ·rcases VT.1 h with rfl | h
   ·exact Xv _
   ·have:=FN r (i+1) x h;omega
  ·have:=FN r (i+1) x h;omega
theorem IT:∀(l:D fB)(i g:Nat),((lJ l i).filter fun k=>decide (k<((i+g:Nat):Int))).length=((l.take g).filter fun x=>decide (x.fC=0)).length
 | [],_,g=>by simp[lJ]
 | y::r,i,0=>by
  simp only[Xk,List.filter_nil,VZ,XT,Ym,VD];intro a ha;have:=FN _ _ a ha;omega
 | y::r,i,g+1=>by
  have ih:=IT r (i+1) g;rw[show i+1+g=i+(g+1) from fh] at ih;unfold lJ;by_cases h:y.fC=0
  ·rw[Vs h,Wz,XD,XD,Vs (by simp;omega),Vs (by simpa using h),VC,VC,ih]
  ·rw[Vo h,Wz,XD,Vo (by simpa using h),ih]
theorem MY (p:D fB)(g:Nat):rq p (g:Int)=(((p.take g).filter fun x=>decide (x.fC=0)).length:Int):=by
 unfold rq zn;have h:=IT p 0 g;rw[VJ] at h;rw[h]
theorem Fz:∀(l:D G)(v:G)(i:Nat),nC l v i=so l v i
 | [],_,_=>rfl
 | y::r,v,i=>by
  unfold nC so;by_cases h:v=y
  ·rw[Vs h,Vs h.symm]
  ·rw[Vo h,Vo (fun e=>h e.symm),Fz r]
def Mk (P:kw)(T:jy)(R0:D (D Value))(s:fV)(rep:Int->gA->gA)(fs:D Int)(k d:Nat):Prop:=∀(m:gA)(W:V)(L:D Nat)(g:Int)(A2:N VQ)(n2 c2:Nat),pN P T m R0 s W L->jt P.E m->m.fx.length<200->kB P.E.p g->oH P.E fs m g=H->((zD P.E.p g).length:Int)<=m.fv->m.fv<=lD d->
 VK prog 219 #[.pointer (F ⟨P.g,0,I⟩),C Z g,C Z k,.agg #[C Z s.f,J T.Ac s.ft.length T.cc,J T.Al s.fM.length T.cl,C Z s.first,X s.iu,J A2 n2 c2]] W fun r W'=>r=.returned (.tuple #[])/\ia P T (rep g m) R0 s W L W'
theorem zzk {rep:Int->gA->gA} {fs:D Int} (hR:sr P)(hs:iS P.E s)(hrW:Mk P T R0 s rep fs k d)(hrO:vv P.E rep fs d)(hF:jL fs (R0++[lR s T I 0]))(hn:R0.length<=3)(hx:P.E.p[k]?=F xl) :
  ∀(n:Nat) (e:Ex),e.size<=n->∀{a:Nat} {rs:D iq} {m:gA} {W:V} {L:D Nat},pN P T m R0 s W L->e.wf->xl.Expr.drop a=e.flat++rs->zU P.E.p s.fM e.flat=H->jt P.E m->max m.fx.length (200+jJ d)+e.size<=8000->0<=m.fv->m.fv+e.size<=lD d+1->
  VK prog 213 #[.pointer (F ⟨P.g,0,I⟩),C Z k,C Z a] W fun r W'=>r=.returned (C Z ((a+e.size:Nat):Int))/\ia P T (e.comp P.E rep fs s k m) R0 s W L W':=by
 intro n;induction n with
 | zero=>intro e he;have:=e.size_pos;omega
 | succ n ih=>
 intro e he a rs m W L h hw hd aG hm ac d1 b2
 match e,he,hw,hd,aG,ac,b2 with
 | .node t ks,he,hw,hd,aG,ac,b2=>
 obtain⟨Av,cv,Sv,Lm,hB,rfl⟩:=h;have cn:=(Vh.1 hx).1;have cp:=hR.env.pc.len;have bH:=(hR.hs xl (Vx hx)).2;obtain⟨gs,cs,ba,s0,s1,s2,s3,s4,s5,sl,sn,sf,sL⟩:=hB.row;have cf:=hB.st.jD.2.2.2.2;have cV:=hB.st.jD.2.1;obtain⟨zf,zl⟩:=hB.st.fz;have dc:Vl Z ((R0.length:Int)+1-1)=(R0.length:Int):=by rw[XM];exact iw
 have dd:Vl Z (R0.length:Int)=(R0.length:Int):=iw;have ct:(R0.length:Int)<(R0.length:Int)+1:=fh;obtain⟨Ai,ci,Si,As,cS,Ss,hM,bY⟩:=id hB.st;have bL:=fk hM.box;clear hM bY;go_enter func213,ntmps213;go_upto_region 1 with(fail);go_cut [7] from 7 to 24 (fun v wx=>∃ g7,v=.pointer (F ⟨g7,0,I⟩)/\fy W wx/\wx.heap[g7]?=F (U #[C Z s.f,J T.Ac s.ft.length T.cc,J T.Al s.fM.length T.cl,C Z s.first,X s.iu,J Av s.fI.length cv] 253 (0,0))/\W.heap.size<=g7)
 case first=>
  refine lO (fun w'=>Vg w' ⟨P.g,11,I⟩=F (J (F ⟨gs,0,I⟩) (R0.length+1) cs)/\Vg w' ⟨gs,R0.length*6,I⟩=F (C Z s.f)/\Vg w' ⟨gs,R0.length*6+1,I⟩=F (J T.Ac s.ft.length T.cc)/\Vg w' ⟨gs,R0.length*6+2,I⟩=F (J T.Al s.fM.length T.cl)/\Vg w' ⟨gs,R0.length*6+3,I⟩=F (C Z s.first)/\Vg w' ⟨gs,R0.length*6+4,I⟩=F (X s.iu)/\Vg w' ⟨gs,R0.length*6+5,I⟩=F (J Av s.fI.length cv)) 13 gU ⟨zc ba,zc s0,zc s1,zc s2,zc s3,zc s4,zc s5⟩ (fun hH=>?_);have HJ:=J3.start (T:=zv) (U7:=zv) (e:=3) (f:=3) bL.out;have HJ:=HJ.fH ((fy.refl _).drew);generalize hYd:W.drew=Wx at HJ hH |-;clear hYd;refine .tq 0 [13] hH ?_;refine .tq 1 [13] hH ?_;refine .tq 2 [13] hH ?_;refine .tq 3 [13] hH ?_;refine .tq 4 [13] hH ?_;refine .tq 5 [13] hH ?_;refine .tq 6 [13] hH ?_;refine .tq 7 [13] hH ?_;refine .tq 8 [13] hH ?_;refine .tq 9 [13] hH ?_;refine .tq 10 [13] hH ?_;refine .tq 11 [13] hH ?_;refine fL.iQ (i:=12) gU rfl (fun K hK=>?_)
  ·go_simp
   have bx:=HJ.hg.size;have HJ:=HJ.mV (cs:=#[C Z 0,J I 0 0,J I 0 0,C Z 0,X M,J I 0 0]) (t:=253);refine hK.out _ _ ⟨HJ.cell ba,HJ.cell s0,HJ.cell s1,HJ.cell s2,HJ.cell s3,HJ.cell s4,HJ.cell s5⟩ ?_;clear hK;generalize WJ _ (U #[C Z 0,J I 0 0,J I 0 0,C Z 0,X M,J I 0 0] 253)=Wx at HJ |-
   try simp only[lay]
   obtain⟨o0,o1,o2,o3,o4,o5,of,ol⟩:=oU HJ.ho;refine fL.last gU rfl gU (fun K hK=>?_);go_simp;refine hK.out _ _ ?_;clear hK
   try simp only[lay]
   have h2:=Mq HJ.ho (C Z s.f) (J T.Ac s.ft.length T.cc) (J T.Al s.fM.length T.cl) (C Z s.first) (X s.iu) (J Av s.fI.length cv);have HJ:=HJ.store h2.2 h2.1 bx;go_wp2_with(fail);go_meet;exact⟨_,rfl,HJ.hg,HJ.ho,bx⟩
 case rest=>
  obtain⟨g7,rfl,ag,bo,d8⟩:=hcut;clear ba s0 s1 s2 s3 s4 s5 sf zf zl;have aD:=hB.fH ag;obtain⟨z0,z1,z2,z5,z6,z7,z8,z9,aa,zf,zl⟩:=aD.st.jl;obtain⟨gp,op,x',cK,cQ,cL,cR,aV,cd,b8,p0,p1,p2,p3,_,_,_,h3⟩:=nA (hR.up aD.st.jD.2.2.2.2) cn;obtain rfl:x'=xl:=by rw[hx] at b8;injection b8 with h;exact h.symm
  obtain⟨b4,bu⟩:=Aw (show x'.Expr.drop a=t::(ks.flat++rs) from hd);have c1:a<x'.Expr.length:=(Vh.1 b4).1;obtain⟨gt,ot,t',aQ,cg,b7,k0,k1,k2,bk,bn,bs⟩:=vZ h3 c1;obtain rfl:t'=t:=by rw[b4] at b7;injection b7 with h;exact h.symm
  subst aQ;rw[aV] at z0;have cP:=fk aV;have cX:(a:Int)<(x'.Expr.length:Int):=fh;have d6:(k:Int)<(P.E.p.length:Int):=fh;have de:Vl Z ((a:Int)+1)=(a:Int)+1:=iw;have HB:=fk hB;have bK:=fk aD;have HX:=fk hx;have bJ:=fk bo;have cY:=Dg hw.1;have aK:Hid (j9 t'=(ks.len:Int)):=fk hw.2.1;have HW:=fk hw;clear hx b8 b7 b4 hd aV hB aD bo;go_wp2_with(first | (go_at_call 207;refine(zpj (t:=t') bs).mono ?_;rw[aK.out];rintro e w1 ⟨rfl,a1⟩));have ab:fy wc w1:=fy.trans (b:=_) gF a1;have az:Hid (w1.heap[wc.heap.size]?=F (U #[C Z t'.fC,C Z t'.iY,Q t'.fJ] 160 (0,0))):=fk (zj (Vj wc _) (fy.trans (b:=_) gF a1));obtain⟨g8,b5⟩:∃ g8,wc.heap.size=g8:=⟨_,rfl⟩
  rw[b5] at az |-;have c6:W.heap.size<=g8:=by have:=ag.size;omega
  have cO:=fk b5;have al:=fk (zj bJ.out ab);have bi:∀ b∈Lm++Sv,b<W.heap.size:=fun b hb=>(VA.1 hb).elim (HB.out.st.jD.2.2.1 b) (HB.out.fI.lt b);have au:g7∉Lm++Sv:=fun hm=>by have:=bi _ hm;omega
  have ah:g8∉Lm++Sv:=fun hm=>by have:=bi _ hm;omega
  have cw:g8≠P.g:=fh;have cu:g7≠P.g:=fh;have bT:=fk (ia.refl (⟨Av,cv,Sv,Lm,bK.out.fH ab,rfl⟩:pN P T m R0 s w1 (Lm++Sv)));have co:ks.size<=n:=by simp only[Ex.size] at he;omega
  have bb:=fk bu
  have av:mK P.E.p s.fM t'=H/\zU P.E.p s.fM ks.flat=H:=by
   have h9:=aG;simp only[Ex.flat,zU,List.all_cons,Vt] at h9;exact h9
  have aM:=fk av;have bA:=ks.lW;simp only[Ex.size] at ac b2 he;have c2:lD d<=900:=by unfold lD;omega
  have br:jJ d<=8000:=fh
  have cZ:a+1+ks.size<=x'.Expr.length:=by
   have h9:=WY List.length bb.out;rw[Vk,ks.ie,WL] at h9;omega
  have bR:=fk hm;clear b5 bu aG av hw z0 z1 z2 z5 z6 z7 z8 z9 aa zf zl p0 p1 p2 p3 k0 k1 k2 hm;go_loopw [2,9] (fun z2 z9 wr=>∃(nx:Nat) (qs:ig) (mq:gA),z2=C Z nx/\z9=C Z (qs.len:Int)/\nx+qs.size=a+1+ks.size/\qs.len<=ks.len/\qs.size<=ks.size/\ks.len+qs.size<=ks.size+qs.len/\Hid (x'.Expr.drop nx=qs.flat++rs)/\Hid qs.wf/\Hid (zU P.E.p s.fM qs.flat=H)/\Hid (ia P T mq R0 s w1 (Lm++Sv) wr)/\Hid (qs.comp P.E rep fs s k mq=ks.comp P.E rep fs s k m)/\Hid (jt P.E mq)/\mq.fv=m.fv+(ks.len:Int)-(qs.len:Int)/\(max mq.fx.length (200+jJ d)+qs.size<=7999)) (fun _ z9 _=>(Wj z9).toNat)
  case atStart=>exact⟨a+1,ks,m,io,rfl,rfl,Vz _,Vz _,fh,bb,fk HW.out.2.2,fk aM.out.2,bT,fk rfl,bR,fh,fh⟩
  case round=>
   obtain⟨nx,qs,mq,rfl,rfl,aH,bE,bF,bB,hD,bm,bZ,hN,hC,aU,aE,bt⟩:=hrel;cases qs with
   | cons e1 r=>
    simp only[ig.size,ig.len] at aH bE bF bB aE bt;have da:=r.lW;have d2:=e1.size_pos;obtain⟨L1,aW,a3,a8⟩:=hN.out;have ai:=bm.out.1;have ae:x'.Expr.drop nx=e1.flat++(r.flat++rs):=by have h9:=hD.out;simpa only[ig.flat,VM] using h9
    have a7:zU P.E.p s.fM e1.flat=H/\zU P.E.p s.fM r.flat=H:=by
     have h9:=bZ.out;simp only[ig.flat,zU,XU,Vt] at h9;exact h9
    have cz:(((r.len+1:Nat)):Int) > 0:=fh;have bD:(0:Int)<((r.len:Int)+1):=fh;have df:Vl Z ((r.len:Int)+1-1)=(r.len:Int):=by rw[XM];exact iw
    have cG:Vl Z (r.len:Int)=(r.len:Int):=iw;have aw:=Ex.jE hR.env hs hrO (k:=(k:Int)) ⟨fh,fh⟩ e1 mq ai a7.1 aU.out fh fh;have h7:=aw.cnt;have h8:=aw.fv;have h9:=aw.most;have bU:=fk aw;have a4:=ih e1 fh aW ai ae a7.1 aU.out fh fh fh;have bO:Hid (x'.Expr.drop (nx+e1.size)=r.flat++rs):=fk (by rw[<-Xx,ae,<-e1.ie,Yg]);have bM:Hid (r.comp P.E rep fs s k (e1.comp P.E rep fs s k mq)=ks.comp P.E rep fs s k m):=fk (by rw[<-hC.out];rfl);have aN:=fk a7.2;have aO:=fk bm.out.2;clear aw ae a7 ai;simp only[ig.len];go_wp2_with(first | (go_at_call 213;refine a4.mono ?_;rintro e w2 ⟨rfl,h2⟩));go_roundw;exact⟨nx+e1.size,r,_,io,io,fh,fh,fh,fh,bO,aO,aN,fk (ia.trans a3 a8 h2),bM,fk bU.out.ok,fh,fh⟩;exact iC
   | nil=>
    simp only[ig.size,ig.len,Wk] at aH bE bF bB aE bt;have HK:Hid (mq=ks.comp P.E rep fs s k m):=fk hC.out;obtain⟨L1,aW,a3,a8⟩:=hN.out;obtain⟨ay,aB,bg,aP,a2,rfl⟩:=aW;obtain⟨o0,o1,o2,o3,o4,o5,of,ol⟩:=oU (rU a3 au al.out);obtain⟨k0,k1,k2,kf,kl⟩:=kL (rU a3 ah az.out);obtain⟨z0,z1,z2,z5,z6,z7,z8,z9,aa,zf,zl⟩:=a2.st.jl;have bq:=a2.ft.read;have c3:=hs.ft.1;have aI:s.ft.length<=1000:=fh;have ak:mq.fx.length<=100000:=fh;have aF:fQ (k:Int):=⟨fh,fh⟩
    have bp : -1000000<=mq.fv/\mq.fv<=1000000:=⟨fh,fh⟩
    have bv:fQ mq.fv:=⟨fh,fh⟩
    have d9:¬ ((0:Int) > 0):=fh;have bc:=fk aE;have c4:0<=mq.fv/\mq.fv<=1000:=⟨fh,fh⟩
    have an:=fk aH;clear aE aH;simp only[ig.len];by_cases q0:t'.fC=0
    ·have r0:(t'.fC == 0)=H:=V4.2 q0
     have HQ:Hid ((Ex.node t' ks).comp P.E rep fs s k m=mx P.E mq t'.iY k s.ft):=fk (by rw[HK.out];show pI _ _ _ _ _ _ _=_;unfold pI;rw[Vs q0]);clear q0;go_wp2_with(first | (go_at_call 211;refine(zmX a2.st bq aI ak bn bp aF).mono ?_;rintro e w3 ⟨rfl,h3⟩;have am:=fk (a2.next h3)));exact Vr (v:=C Z (nx:Int)) (by simp[VF,results213,go_sem]) rfl ⟨WY (fun z=>XA (C Z z)) (by have h9:=an.out;simp only[Ex.size];omega),by rw[HQ.out];exact ia.from ag (ia.from ab (ia.trans a3 a8 am.out))⟩
    by_cases q1:t'.fC=1
    ·have r0:(t'.fC == 0)=M:=Vw.2 q0
     have r1:(t'.fC == 1)=H:=V4.2 q1
     have bz:ld s.fM t'.fJ=H:=by
      have h9:=aM.out.1;unfold mK at h9;rwa [Vs q1] at h9
     have cj:=AG s.fM t'.fJ 0 bz;obtain⟨ix,a6⟩:∃ v,so s.fM t'.fJ 0=v:=⟨_,rfl⟩
     rw[a6] at cj;have bS:Hid (nC s.fM t'.fJ 0=ix):=fk (by rw[Fz,a6]);have HQ:Hid ((Ex.node t' ks).comp P.E rep fs s k m=BX P.E mq s ix k):=fk (by rw[HK.out];show pI _ _ _ _ _ _ _=_;unfold pI;rw[Vo q0,Vs q1,a6]);have cr:=hs.fM.2;have cq:s.fM.length<=8796093022208:=fh;have ch:0<=ix/\ix<=100:=⟨fh,fh⟩
     have d3:=hs.first;have c5 : -1000<=s.first/\s.first<=1000:=⟨fh,fh⟩
     have cW:=hR.env.args;have c0:0<=P.E.args/\P.E.args<=100:=⟨fh,fh⟩
     have bX:=a2.fM.read;clear q0 q1 bz a6;go_upto_region 14 with(fail);clear z0 z1 z2 z5 z6 z7 z8 z9 aa k0 k1;refine lO (fun w'=>Vg w' ⟨g7,0,I⟩=F (C Z s.f)/\Vg w' ⟨g7,1,I⟩=F (J T.Ac s.ft.length T.cc)/\Vg w' ⟨g7,2,I⟩=F (J T.Al s.fM.length T.cl)/\Vg w' ⟨g7,3,I⟩=F (C Z s.first)/\Vg w' ⟨g7,4,I⟩=F (X s.iu)/\Vg w' ⟨g7,5,I⟩=F (J Av s.fI.length cv)/\Vg w' ⟨g8,2,I⟩=F (Q t'.fJ)) 8 gU (Vm (zc o0) (Vm (zc o1) (Vm (zc o2) (Vm (zc o3) (Vm (zc o4) (Vm (zc o5) (zc k2))))))) (fun hH=>?_);have ad:fy wr wr.drew:=(fy.refl _).drew;clear o0 o1 o2 o3 o4 o5 k2;generalize wr.drew=wx at ad hH |-;obtain⟨o0,o1,o2,o3,o4,o5,k2⟩:=id hH;refine .tk 0 [8] hH ?_;refine .tk 1 [8] hH ?_;refine .tk 2 [3,6,8] hH ?_;refine .tk 3 [6,8] hH ?_;refine .tk 4 [5,6,8] hH ?_;refine .tk 5 [6,8] hH ?_;refine .tk 7 [8] hH ?_;refine fL.one (i:=6) gU rfl (fun K hK=>?_);go_simp;go_at_call 193;refine(zge (xs:=s.fM) (Ty.up _ bX ad) cq).mono ?_;rw[bS.out];rintro e v1 ⟨rfl,a1⟩;have a0:=ad.trans a1;have o0:=za a1 o0;have o1:=za a1 o1;have o2:=za a1 o2;have o3:=za a1 o3;have o4:=za a1 o4;have o5:=za a1 o5;have k2:=za a1 k2;refine hK.out _ _ (Vm o0 (Vm o1 (Vm o2 (Vm o3 (Vm o4 (Vm o5 k2)))))) (fun hI=>?_);clear hK hH;have hH:=hI
     try simp only[lay]
     refine fL.last gU rfl gU (fun K hK=>?_);go_simp;go_at_call 217;refine(zzn (a2.fH a0).st (a2.fH a0).ft.read aI ak ch bp c5 c0 aF).mono ?_;rintro e w3 ⟨rfl,h3⟩;have am:=fk ((a2.fH a0).next h3);refine hK.out _ _ ?_;clear hK
     try simp only[lay]
     go_wp2_with(fail);exact Vr (v:=C Z (nx:Int)) (by simp[VF,results213,go_sem]) rfl ⟨WY (fun z=>XA (C Z z)) (by have h9:=an.out;simp only[Ex.size];omega),by rw[HQ.out];exact ia.from ag (ia.from ab (ia.trans a3 a8 (ia.from a0 am.out)))⟩
    by_cases q7:t'.fC=7
    ·have r0:(t'.fC == 0)=M:=Vw.2 q0
     have r1:(t'.fC == 1)=M:=Vw.2 q1;have r7:(t'.fC == 7)=H:=V4.2 q7;obtain⟨gi,xg,b3,aJ,ax,b9⟩:=Cq aM.out.1 q7;have c8:=(Vh.1 aJ).1;have bP:=fk b3;have db:=IZ HW.out.1 q7;have c7:kB P.E.p (gi:Int):=⟨gi,rfl,xg,aJ,ax⟩
     have bQ:Hid ((zD P.E.p (gi:Int)).length=ks.len):=fk (by have h8:=aK.out;rw[Bs HW.out.1 q7] at h8;rw[uo aJ];omega);have bj:t'.iY=(ks.len:Int):=by have h8:=aK.out;rw[Bs HW.out.1 q7] at h8;exact h8
     have be:Hid ((Ex.node t' ks).comp P.E rep fs s k m=if oH P.E fs mq (gi:Int)=H then rep (gi:Int) mq else (zC P.E mq 12 (rq P.E.p (gi:Int)) k s.ft).gR (mq.fv-t'.iY+1)):=fk (by rw[HK.out];show pI _ _ _ _ _ _ _=_;unfold pI;rw[Vo q0,Vo q1,Vs q7,b3])
     have bh:jL fs (R0++[lR s T ay aB]):=by
      unfold jL at hF |-;rw[<-hF];simp[lR]
     have bC:0<(R0++[lR s T ay aB]).length/\(R0++[lR s T ay aB]).length<=100:=⟨gm,by simp;omega⟩
     have bw:0<=(gi:Int)/\(gi:Int)<=1000:=⟨fh,fh⟩
     have cA:=hR.up a2.st.jD.2.2.2.2;have cy:=hR.hl;obtain⟨b,hb⟩:∃ b,oH P.E fs mq (gi:Int)=b:=⟨_,rfl⟩
     have aj:=fk hb;have aA:=fk bj;clear q0 q1 q7 b3 aJ ax b9 hb bj;go_upto_region 16 with(fail);clear z1 z2 z5 z6 z7 z8 z9 aa k0;refine lO (fun w'=>Vg w' ⟨P.g,0,I⟩=F (J P.A P.E.p.length P.c)/\Vg w' ⟨g8,2,I⟩=F (Q t'.fJ)) 7 gU (Vm (zc z0) (zc k2)) (fun hH=>?_);have ad:fy wr wr.drew:=(fy.refl _).drew;clear z0 k2;generalize wr.drew=wx at ad hH |-;obtain⟨z0,k2⟩:=id hH;refine .tk 0 [7] hH ?_;refine .tk 1 [7] hH ?_;refine .tk 2 [7] hH ?_;refine .tk 3 [7] hH ?_;refine .tk 4 [7] hH ?_;refine .tk 5 [7] hH ?_;refine fL.one (i:=6) gU rfl (fun K hK=>?_);go_simp;go_at_call 159;refine(zdB (Ty.up _ cA ad) cy).mono ?_;rw[bP.out];rintro e v1 ⟨rfl,a1⟩;have a0:=ad.trans a1;have z0:=za a1 z0;have k2:=za a1 k2;refine hK.out _ _ (Vm z0 k2) (fun hI=>?_);clear hK hH;have hH:=hI
     try simp only[lay]
     refine fL.last gU rfl gU (fun K hK=>?_);go_simp;refine hK.out _ _ ?_;clear hK
     try simp only[lay]
     have aC:=a2.fH a0;have aZ:=zj (rU a3 ah az.out) a0;have aq:=zj (rU a3 au al.out) a0;clear k1 k2 o0 o1 o2 o3 o4 o5 hH z0;cases b
     case' true=>
      go_upto_region 18 with(first | (go_at_call 218;refine(znh (fs:=fs) aC.st hR bh ak bC bw).mono ?_;rw[aj.out];rintro e w5 ⟨rfl,a9⟩));have af:fy _ w5:=a9;obtain⟨o0,o1,o2,o3,o4,o5,cI,cJ⟩:=oU (zj aq a9);have a4:=hrW mq w5 (aP++bg) (gi:Int) Av s.fI.length cv ⟨ay,aB,bg,aP,aC.fH a9,rfl⟩ aU.out (vH aj.out).2.2.1 c7 aj.out (by rw[bQ.out];have h9:=bc.out;omega) (by have h9:=bc.out;omega);go_wp2_with(first | (go_at_call 219;refine a4.mono ?_;rintro e w6 ⟨rfl,h6⟩));exact Vr (v:=C Z (nx:Int)) (by simp[VF,results213,go_sem]) rfl ⟨WY (fun z=>XA (C Z z)) (by have h9:=an.out;simp only[Ex.size];omega),by rw[be.out,aj.out,Vs rfl];exact ia.from ag (ia.from ab (ia.trans a3 a8 (ia.from a0 (ia.from af h6))))⟩
     case' false=>
      go_upto_region 21 with(first | (go_at_call 218;refine(znh (fs:=fs) aC.st hR bh ak bC bw).mono ?_;rw[aj.out];rintro e w5 ⟨rfl,a9⟩));have af:fy _ w5:=a9;have aR:=aC.fH a9;have cx:=hR.up aR.st.jD.2.2.2.2;have aY:=zj aZ a9;have aX:=zj aq a9;have cH:=aR.st.jl;go_wp2_with(fail);go_loopw [11,12] (fun z11 aa wi=>∃(j c:Nat),z11=C Z c/\aa=C Z j/\j<=gi/\c<=j/\Hid (((P.E.p.take j).filter fun x=>decide (x.fC=0)).length=c)/\Hid (fy w5 wi)) (fun _ aa _=>gi-(Wj aa).toNat)
      case atStart=>exact⟨0,0,rfl,rfl,Vu _,Vz _,fk rfl,fk gF⟩
      case round=>
       obtain⟨j,c,rfl,rfl,d4,d0,aT,a5⟩:=hrel;by_cases hjl:j<gi
       ·have ck:(j:Int)<(gi:Int):=fh
        obtain⟨gq,oq,xj,cM,cT,cN,cU,ap,ce,bG,v0,v1,v2,v3,_⟩:=nA (Ty.up _ cx a5.out) (show j<P.E.p.length from fh);have y0:=za a5.out cH.1;rw[ap] at y0;have d5:(j:Int)<(P.E.p.length:Int):=fh;have bf:=fk bG;clear ap bG;by_cases hk0:xj.fC=0
        ·have cm:(xj.fC == 0)=H:=V4.2 hk0
         have aL:Hid (((P.E.p.take (j+1)).filter fun x=>decide (x.fC=0)).length=c+1):=fk (by rw[Wr,bf.out,Zc,Vk,aT.out];simp[hk0]);clear hk0;go_wp2_with(fail);go_roundw;exact⟨j+1,c+1,io,io,fh,fh,aL,fk (a5.out.trans gF)⟩;exact iC
        ·have cm:(xj.fC == 0)=M:=Vw.2 hk0
         have aL:Hid (((P.E.p.take (j+1)).filter fun x=>decide (x.fC=0)).length=c):=fk (by rw[Wr,bf.out,Zc,Vk,aT.out];simp[hk0]);clear hk0;go_wp2_with(fail);go_roundw;exact⟨j+1,c,io,io,fh,fh,aL,fk (a5.out.trans gF)⟩;exact iC
       ·obtain rfl:j=gi:=fh
        have ck:¬ ((j:Int)<(j:Int)):=fh;have bN:Hid (rq P.E.p (j:Int)=(c:Int)):=fk (by rw[MY,aT.out]);have aS:=aR.fH a5.out;have ar:=zj aY a5.out;have b1:=aS.ft.read;have bW:fQ 12:=⟨fh,fh⟩
        have b0:fQ (c:Int):=⟨fh,fh⟩
        obtain⟨o0,o1,o2,o3,o4,o5,cI,cJ⟩:=oU (zj aX a5.out);obtain⟨k0,k1,k2,dg,dh⟩:=kL ar;have ca:fy w5 _:=a5.out;have cE:Vl Z (mq.fv-t'.iY)=mq.fv-t'.iY:=WI _ ⟨by have h9:=aA.out;omega,by have h9:=aA.out;omega⟩;have cF:Vl Z (mq.fv-t'.iY+1)=mq.fv-t'.iY+1:=WI _ ⟨by have h9:=aA.out;omega,by have h9:=aA.out;omega⟩;go_upto_region 27 with(first | (go_at_call 203;refine(zfL aS.st b1 aI ak bW b0 aF bv).mono ?_;rintro e w6 ⟨rfl,h6⟩));have bd:=fk (aS.next h6);have y9:Vg w6 ⟨P.g,9,I⟩=F (C Z mq.fv):=h6.c9.1;obtain⟨_,bl,ao,_⟩:=h6
        have b6:g8∉aP:=fun hm=>by
         rcases a8 g8 (VN _ hm) with h | h
         ·exact ah h
         ·have h9:=(blt az.out);omega
        have bI:=(kL (rU ao b6 ar)).2.1;obtain⟨yf,yl⟩:=bl.fz;clear k0 k1 k2 o0 o1 o2 o3 o4 o5 bl ao;refine yq 11 gU gU (fun wy hgy=>?_);have x9:=za hgy y9;have di:=za hgy bI
        have xf:∀ j,VE wy ⟨P.g,j,I⟩=M:=by
         obtain⟨_,h1,_,_⟩:=bd.out;obtain⟨_,_,_,_,h2,_⟩:=h1;exact((h2.fH hgy).st.fz).1
        clear y9 bI yf;simp only[Wz,Xk,WR,WQ]
        repeat still_step
        refine XZ ?_;go_wp2_with(fail);exact Vr (v:=C Z (nx:Int)) (by simp[VF,results213,go_sem]) rfl ⟨WY (fun z=>XA (C Z z)) (by have h9:=an.out;simp only[Ex.size];omega),by rw[be.out,aj.out,Vo gv,bN.out];exact ia.from ag (ia.from ab (ia.trans a3 a8 (ia.from a0 (ia.from af (ia.from a5.out ((bd.out.fH hgy).num rfl (fun _ _ _ _ _ _ _ _ _=>rfl)))))))⟩
    have r0:(t'.fC == 0)=M:=Vw.2 q0;have r1:(t'.fC == 1)=M:=Vw.2 q1;have r7:(t'.fC == 7)=M:=Vw.2 q7;have d7:=E2 HW.out.1;have HQ:Hid ((Ex.node t' ks).comp P.E rep fs s k m=(zC P.E mq (5+t'.fC-2) 0 k s.ft).gR (mq.fv-1)):=fk (by rw[HK.out];show pI _ _ _ _ _ _ _=_;unfold pI;rw[Vo q0,Vo q1,Vo q7]);have cB:Vl Z (5+t'.fC)=5+t'.fC:=iw;have cC:Vl Z (5+t'.fC-2)=5+t'.fC-2:=iw;have cD:Vl Z (mq.fv-1)=mq.fv-1:=iw;have b0:fQ (5+t'.fC-2):=⟨fh,fh⟩
    have bV:fQ 0:=⟨fh,fh⟩
    clear q0 q1 q7;go_wp2_with(first | (go_at_call 203;refine(zfL a2.st bq aI ak b0 bV aF bv).mono ?_;rintro e w3 ⟨rfl,h3⟩;have am:=fk (a2.next h3);obtain⟨y9,yf,yl⟩:=h3.c9;replace y9:Vg w3 ⟨P.g,9,I⟩=F (C Z mq.fv):=y9;clear h3));exact Vr (v:=C Z (nx:Int)) (by simp[VF,results213,go_sem]) rfl ⟨WY (fun z=>XA (C Z z)) (by have h9:=an.out;simp only[Ex.size];omega),by rw[HQ.out];exact ia.from ag (ia.from ab (ia.trans a3 a8 (am.out.num rfl (fun _ _ _ _ _ _ _ _ _=>rfl))))⟩
structure ir (B:D (Nat × Obj))(P:kw)(T:jy)(R0:D (D Value))(s:fV)(W:V)(L0:D Nat)(Ah:N VQ)(ch:Nat)(Sh:D Nat)(L:jC)(Ae:N VQ)(ce:Nat)(Se L':D Nat)(wr:V):Prop where
 st:pN P T L.m R0 (s.wl L.fI) wr L'
 on:fG L0 W wr
 nw:∀ b∈L',b∈L0∨W.heap.size<=b
 hd:Has (zv.sl 3) wr [J Ah L.gj.length ch] L.gj Sh
 ex:Has (sV.sl 264) wr [J Ae L.fS.length ce] L.fS Se
 dh:∀ b∈Sh,b∉L'/\b∉Se/\W.heap.size<=b
 de:∀ b∈Se,b∉L'/\W.heap.size<=b
 kb:∀ p∈B,wr.heap[p.1]?=F p.2/\p.1∉L'/\p.1∉Sh/\p.1∉Se
section
variable {B:D (Nat × Obj)} {P:kw} {T:jy} {R0:D (D Value)} {s:fV} {W:V} {L0:D Nat} {Ah:N VQ} {ch:Nat} {Sh:D Nat} {L:jC} {Ae:N VQ} {ce:Nat} {Se L':D Nat} {wr:V}
theorem ir.next {m':gA} {lv':D Int} (h:ir B P T R0 s W L0 Ah ch Sh L Ae ce Se L' wr)(k:ia P T m' R0 (s.wl lv') wr L' w2):∃ L2,ir B P T R0 s W L0 Ah ch Sh ⟨m',lv',L.gj,L.fS⟩ Ae ce Se L2 w2:=by
 obtain⟨L2,h1,h2,h3⟩:=k;have a0:=h.on.size;refine⟨L2,h1,h.on.then h2 h.nw,fun b hb=>?_,h.hd.gu h2 (fun b hb=>(h.dh b hb).1),h.ex.gu h2 (fun b hb=>(h.de b hb).1),fun b hb=>⟨Ar (fun b hb=>(h.dh b hb).1) h.hd.lt h3 b hb,(h.dh b hb).2⟩,fun b hb=>⟨Ar (fun b hb=>(h.de b hb).1) h.ex.lt h3 b hb,(h.de b hb).2⟩,fun p hp=>?_⟩
 rotate_left
 ·obtain⟨k1,k2,k3⟩:=h.kb p hp
  have hl:=(blt k1)
  exact⟨(h2.block p.1 hl k2).trans k1,fun hm=>(h3 p.1 hm).elim k2 (fun h=>fh),k3⟩
 rcases h3 b hb with hb | hb
 ·exact h.nw b hb
 ·exact .inr fh
theorem ir.fH {w2:V}(h:ir B P T R0 s W L0 Ah ch Sh L Ae ce Se L' wr)(hg:fy wr w2):ir B P T R0 s W L0 Ah ch Sh L Ae ce Se L' w2:=
 ⟨h.st.fH hg,h.on.trans (hg.only _),h.nw,h.hd.fH hg,h.ex.fH hg,h.dh,h.de,fun p hp=>⟨zj (h.kb p hp).1 hg,(h.kb p hp).2⟩⟩
theorem pN.gu {m:gA}{S Lx:D Nat}{w w2:V}(h:pN P T m R0 s w Lx)(ho:fG S w w2)(hS:∀ b∈S,b∉Lx/\P.Y.heap.size<=b/\b∉T.Sc/\b∉T.Sl):pN P T m R0 s w2 Lx:=by
 obtain⟨Av,cv,Sv,Lm,h,rfl⟩:=h;refine⟨Av,cv,Sv,Lm,⟨h.st.gu ho (fun b hb=>⟨fun hm=>(hS b hb).1 (VN _ hm),(hS b hb).2.1⟩),h.ft.gu ho (fun b hb hm=>(hS b hm).2.2.1 hb),h.fM.gu ho (fun b hb hm=>(hS b hm).2.2.2 hb),h.fI.gu ho (fun b hb hm=>(hS b hm).1 (VV _ hb)),h.dc,h.dl,h.dv,h.lv⟩,rfl⟩
theorem ir.fS {A2:N VQ} {c2:Nat} {S2:D Nat} {xs:D (Int × Int)} (h:ir B P T R0 s W L0 Ah ch Sh L Ae ce Se L' wr)(hY:P.Y.heap.size<=W.heap.size)(hT:(∀ b∈T.Sc,b<W.heap.size)/\∀ b∈T.Sl,b<W.heap.size)
  (hL:∀ b∈L',b<wr.heap.size) (ho:fG Se wr w2) (hH:Has (sV.sl 264) w2 [J A2 xs.length c2] xs S2) (hS:∀ b∈S2,b∈Se∨wr.heap.size<=b):ir B P T R0 s W L0 Ah ch Sh ⟨L.m,L.fI,L.gj,xs⟩ A2 c2 S2 L' w2:=by
 have a1:=h.on.size;have a0:=h.hd.lt;refine⟨h.st.gu ho (fun b hb=>⟨(h.de b hb).1,by have:=(h.de b hb).2;omega,fun hm=>by have:=(h.de b hb).2;have:=hT.1 b hm;omega,fun hm=>by have:=(h.de b hb).2;have:=hT.2 b hm;omega⟩),?_,h.nw,h.hd.gu ho (fun b hb=>(h.dh b hb).2.1),hH,fun b hb=>⟨(h.dh b hb).1,fun hm=>?_,(h.dh b hb).2.2⟩,fun b hb=>?_,fun p hp=>?_⟩
 ·exact h.on.then ho (fun b hb=>.inr (h.de b hb).2)
 ·rcases hS b hm with h1 | h1
  ·exact(h.dh b hb).2.1 h1
  ·have:=a0 b hb;omega
 ·rcases hS b hb with h1 | h1
  ·exact h.de b h1
  ·exact⟨fun hm=>by have:=hL b hm;omega,by omega⟩
 ·obtain⟨k1,k2,k3,k4⟩:=h.kb p hp
  have hl:=(blt k1)
  exact⟨(ho.block p.1 hl k4).trans k1,k2,k3,fun hm=>(hS p.1 hm).elim k4 (fun h=>by omega)⟩
theorem ir.head (h:ir B P T R0 s W L0 Ah ch Sh L Ae ce Se L' wr)(hY:P.Y.heap.size<=W.heap.size)(hT:(∀ b∈T.Sc,b<W.heap.size)/\∀ b∈T.Sl,b<W.heap.size){k:Nat}{v:Int}(hk:L.gj[k]?=F v) :
  ∃ gh,Ah=F ⟨gh,0,I⟩/\gh<wr.heap.size/\(∀ j,VE wr ⟨gh,j,I⟩=M)/\Vg wr ⟨gh,k,I⟩=F (C Z v)/\fQ v/\gh≠P.g/\∀ u,fQ u->ir B P T R0 s W L0 Ah ch Sh ⟨L.m,L.fI,L.gj.set k u,L.fS⟩ Ae ce Se L' (wr.setCell ⟨gh,k,I⟩ (C Z u)):=by
 obtain⟨gh,el,a6,rfl,a3,a4,_,_,_,hO,hf,hc,a0,_⟩:=sA h.hd.1 h.hd.2 hk;obtain⟨rfl,b1,b2,rfl⟩:=hO;have a1:=hc 0 _ rfl;rw[show k*zv.size+0=k from by show k*1+0=k;omega] at a1
 have a2:P.g∈L':=by
  obtain⟨Av,cv,Sv,Lm,h1,h2⟩:=h.st;rw[h2];exact VN _ h1.st.jD.1
 refine⟨gh,rfl,a4,hf,a1,⟨b1,b2⟩,fun e=>(h.dh gh a3).1 (e ▸ a2),fun u hu=>?_⟩;have hp:=a0 0 (C Z u) u (by decide) rfl ⟨rfl,hu.1,hu.2,rfl⟩;rw[show k*zv.size+0=k from by show k*1+0=k;omega] at hp;have a5:=hp.2;refine⟨h.st.gu hp.2 (fun b hb=>⟨(h.dh b hb).1,by have:=(h.dh b hb).2.2;omega,fun hm=>by have:=(h.dh b hb).2.2;have:=hT.1 b hm;omega,fun hm=>by have:=(h.dh b hb).2.2;have:=hT.2 b hm;omega⟩),h.on.then hp.2 (fun b hb=>.inr (h.dh b hb).2.2),h.nw,?_,h.ex.gu hp.2 (fun b hb hm=>(h.dh b hm).2.1 hb),h.dh,h.de,fun p hp=>⟨(a5.block p.1 (Wt.1 (h.kb p hp).1).1 (h.kb p hp).2.2.1).trans (h.kb p hp).1,(h.kb p hp).2⟩⟩;rw[VY];exact⟨hp.1,h.hd.2⟩
end
theorem Rz {ex:D (Int × Int)} {v:Int} (h:ir B P T R0 s W L0 Ah ch Sh ⟨m,lv,hd,ex⟩ Ae ce Se L' wr)(hcl:s.ft.length<=1000)(hml:m.fx.length<=100000)(hv:fQ v)(hdp : -1000000<=m.fv/\m.fv<=1000000)(hl:fQ line) :
  VK prog 211 #[.pointer (F ⟨P.g,0,I⟩),C Z v,C Z line,J T.Ac s.ft.length T.cc] wr fun r w'=>r=.returned (.tuple #[])/\∃ L2,ir B P T R0 s W L0 Ah ch Sh ⟨mx P.E m v line s.ft,lv,hd,ex⟩ Ae ce Se L2 w':=by
 obtain⟨Av,cv,Sv,Lm,hB,hL⟩:=h.st;subst hL;exact(zmX (ft:=s.ft) hB.st hB.ft.read hcl hml hv hdp hl).mono fun r w' hh=>⟨hh.1,h.next (hB.next hh.2)⟩
theorem BT {ex:D (Int × Int)} {code arg:Int} (h:ir B P T R0 s W L0 Ah ch Sh ⟨m,lv,hd,ex⟩ Ae ce Se L' wr)(hcl:s.ft.length<=1000)(hml:m.fx.length<=100000)(h0:fQ code)(h1:fQ arg)(h2:fQ line)(h3:fQ m.fv) :
  VK prog 203 #[.pointer (F ⟨P.g,0,I⟩),C Z code,C Z arg,C Z line,J T.Ac s.ft.length T.cc] wr fun r w'=>r=.returned (.tuple #[])/\∃ L2,ir B P T R0 s W L0 Ah ch Sh ⟨zC P.E m code arg line s.ft,lv,hd,ex⟩ Ae ce Se L2 w':=by
 obtain⟨Av,cv,Sv,Lm,hB,hL⟩:=h.st;subst hL;exact(zfL (ft:=s.ft) hB.st hB.ft.read hcl hml h0 h1 h2 h3).mono fun r w' hh=>⟨hh.1,h.next (hB.next hh.2)⟩
theorem Li {ex:D (Int × Int)} {k:Int} {last:Bool} (h:ir B P T R0 s W L0 Ah ch Sh ⟨m,lv,hd,ex⟩ Ae ce Se L' wr)(he:iH P.E)(hcl:s.ft.length<=1000)(hml:m.fx.length<=100000)(hlv:lv.length<=100000)(hdp : -1000000<=m.fv/\m.fv<=1000000)(hk:fQ k)(hn:R0.length<=100) :
  VK prog 212 #[.pointer (F ⟨P.g,0,I⟩),C Z k,X last] wr fun r w'=>r=.returned (.tuple #[])/\∃ L2,ir B P T R0 s W L0 Ah ch Sh ⟨(lH P.E s k last ⟨m,lv,hd,ex⟩).m,(lH P.E s k last ⟨m,lv,hd,ex⟩).fI,hd,ex⟩ Ae ce Se L2 w':=
 (zyn (U9:=hd) (Vb:=ex) h.st he hcl hml hlv hdp hk hn).mono fun r w' hh=>⟨hh.1,h.next hh.2⟩
theorem KX {ex:D (Int × Int)} {tgt:Int} (h:ir B P T R0 s W L0 Ah ch Sh ⟨m,lv,hd,ex⟩ Ae ce Se L' wr)(hj:∀ e∈ex,iW m.fx e.2)(hml:m.fx.length<=100000)(hel:ex.length<=100000) :
  VK prog 210 #[.pointer (F ⟨P.g,0,I⟩),J Ae ex.length ce,C Z tgt] wr fun r w'=>r=.returned (.tuple #[])/\∃ L2,ir B P T R0 s W L0 Ah ch Sh ⟨kp m ex tgt,lv,hd,ex⟩ Ae ce Se L2 w':=by
 obtain⟨Av,cv,Sv,Lm,hB,hL⟩:=h.st;subst hL;exact(zyu (tgt:=tgt) hB.st h.ex (fun b hb hm=>(h.de b hb).1 (VN _ hm)) hj hml hel).mono fun r w' hh=>⟨hh.1,h.next (hB.next hh.2)⟩
theorem ir.AZ {L:jC} (h:ir B P T R0 s W L0 Ah ch Sh L Ae ce Se L' wr):∀ b∈L',b<wr.heap.size:=by
 obtain⟨Av,cv,Sv,Lm,h1,rfl⟩:=h.st;exact fun b hb=>(VA.1 hb).elim (h1.st.jD.2.2.1 b) (h1.fI.lt b)
theorem ir.lu {L:jC} {cs:Array Value} {t:Wl} (h:ir B P T R0 s W L0 Ah ch Sh L Ae ce Se L' wr) :
  ir ((wr.heap.size,U cs t (0,0))::B) P T R0 s W L0 Ah ch Sh L Ae ce Se L' (wr.alloc (U cs t)):=by
 have hg:fy wr (wr.alloc (U cs t)):=(fy.refl _).alloc _;have h1:=h.fH hg;refine⟨h1.st,h1.on,h1.nw,h1.hd,h1.ex,h1.dh,h1.de,fun p hp=>?_⟩;rcases VT.1 hp with rfl | hp
 ·exact⟨Vj _ _,fun hm=>by have:=h.AZ _ hm;simp only at this;omega,fun hm=>by have:=h.hd.lt _ hm;simp only at this;omega,fun hm=>by have:=h.ex.lt _ hm;simp only at this;omega⟩
 ·exact h1.kb p hp
theorem ir.drop {B':D (Nat × Obj)} {L:jC} (h:ir B P T R0 s W L0 Ah ch Sh L Ae ce Se L' wr)(hs:∀ p∈B',p∈B):ir B' P T R0 s W L0 Ah ch Sh L Ae ce Se L' wr:=
 ⟨h.st,h.on,h.nw,h.hd,h.ex,h.dh,h.de,fun p hp=>h.kb p (hs p hp)⟩
theorem TQ (E:gw)(rep:Int->gA->gA)(fs:D Int)(s:fV)(lv:D Int)(k:Int)(t:iq)(m:gA):pI E rep fs (s.wl lv) k t m=pI E rep fs s k t m:=rfl
mutual
theorem Ex.mr (E:gw)(rep:Int->gA->gA)(fs:D Int)(s:fV)(lv:D Int)(k:Int):∀(e:Ex)(m:gA),e.comp E rep fs (s.wl lv) k m=e.comp E rep fs s k m
 | .node t ks,m=>by simp only[Ex.comp,ig.mr E rep fs s lv k ks,TQ]
theorem ig.mr (E:gw)(rep:Int->gA->gA)(fs:D Int)(s:fV)(lv:D Int)(k:Int):∀(ks:ig)(m:gA),ks.comp E rep fs (s.wl lv) k m=ks.comp E rep fs s k m
 | .nil,_=>rfl
 | .cons e r,m=>by simp only[ig.comp,Ex.mr E rep fs s lv k e,ig.mr E rep fs s lv k r]
end
def DB (P:kw)(d:Nat):Prop:=∀(T:jy)(R0:D (D Value))(s:fV)(fs0:D Int)(k:Nat),iS P.E s->(fs0++[s.f]).length=s.ft.length+1->s.ft.length+d=3->jL fs0 R0->R0.length<=3->k<P.E.p.length->lC P.E.p k≠0->
 Mk P T R0 s (fun g m=>zL P.E (zX P.E d) (fs0++[s.f]) k s g m) (fs0++[s.f]) k d/\vv P.E (fun g m=>zL P.E (zX P.E d) (fs0++[s.f]) k s g m) (fs0++[s.f]) d
theorem OH (hE:iH P.E):DB P 0:=by
 intro T R0 s a0 k hs a1 hd hF hn hk a2;refine⟨fun m W L g A2 n2 c2 _ _ _ _ hrep _ _=>?_,fun g m _ _ _ hrep=>?_⟩
 all_goals
  have h1:=(vH hrep).1
  have h2:=hE.inl.2
  exfalso
  omega
theorem OG (hR:sr P)(hL:DA P d):DB P (d+1):=by
 intro T R0 s a2 k hs a0 hd hF hn hk a1;refine⟨fun m W L g A2 n2 c2 h hm hc hg hrep h0 h1=>zvE hL hR h hF hs hd a0 hm hc hg hrep h0 h1 hk a1,?_⟩;exact GD hR.env hs (E7 hR.env d) a0 hd hk a1
theorem TH {ex:D (Int × Int)} {i:Int} {Av:N VQ} {nv cv:Nat} (h:ir B P T R0 s W L0 Ah ch Sh ⟨m,lv,hd,ex⟩ Ae ce Se L' wr)(hcl:s.ft.length<=1000)(hml:m.fx.length<=100000)(hi:0<=i/\i<=100)(hdp : -1000000<=m.fv/\m.fv<=1000000)(hf : -1000<=s.first/\s.first<=1000)(ha:0<=P.E.args/\P.E.args<=100)(hl:fQ line) :
  VK prog 214 #[.pointer (F ⟨P.g,0,I⟩),.agg #[C Z s.f,J T.Ac s.ft.length T.cc,J T.Al s.fM.length T.cl,C Z s.first,X s.iu,J Av nv cv],C Z i,C Z line,J T.Ac s.ft.length T.cc] wr fun r w'=>r=.returned (.tuple #[])/\∃ L2,ir B P T R0 s W L0 Ah ch Sh ⟨ni P.E m s i line s.ft,lv,hd,ex⟩ Ae ce Se L2 w':=by
 obtain⟨a0,a1,Sv,Lm,hB,hL⟩:=h.st;subst hL;exact(zud (s:=s) (ft:=s.ft) (Ac:=T.Ac) (cc:=T.cc) hB.st hB.ft.read hcl hml hi hdp hf ha hl).mono fun r w' hh=>⟨hh.1,h.next (hB.next hh.2)⟩
theorem UB {ex:D (Int × Int)} {fs0:D Int} {e:Ex} (hR:sr P)(hs:iS P.E s)(hrep:DB P d)(hfs:(fs0++[s.f]).length=s.ft.length+1)(hd3:s.ft.length+d=3)(hF:jL fs0 R0)(hn:R0.length<=3)(hx:P.E.p[k]?=F xl)(hk0:lC P.E.p k≠0)
  (h:ir B P T R0 s W L0 Ah ch Sh ⟨m,lv,hd,ex⟩ Ae ce Se L' wr) (hw:e.wf) (hxe:xl.Expr=e.flat) (hnm:zU P.E.p s.fM e.flat=H) (hm:jt P.E m) (hcnt:max m.fx.length (200+jJ d)+e.size<=8000) (hd0:0<=m.fv) (hd1:m.fv+e.size<=lD d+1) :
  VK prog 213 #[.pointer (F ⟨P.g,0,I⟩),C Z k,C Z 0] wr fun r w'=>(∃ v:Int,r=.returned (C Z v))/\∃ L2,ir B P T R0 s W L0 Ah ch Sh ⟨tG P.E (fun g m=>zL P.E (zX P.E d) (fs0++[s.f]) k s g m) (fs0++[s.f]) s k xl.Expr m,lv,hd,ex⟩ Ae ce Se L2 w':=by
 have a0:iS P.E (s.wl lv):=⟨hs.rP,hs.fM,hs.first,hs.ft,hs.iu⟩
 have a1:=(Vh.1 hx).1;obtain⟨a3,a2⟩:=hrep T R0 (s.wl lv) fs0 k a0 hfs hd3 hF hn a1 hk0;have hc:=zzk hR a0 a3 a2 (hF.snoc (s.wl lv) T I 0) hn hx e.size e (Vz _) (a:=0) (rs:=[]) h.st hw (by rw[WQ,Wu,hxe]) hnm hm hcnt hd0 hd1;refine hc.mono fun r w' hh=>⟨⟨_,hh.1⟩,?_⟩;obtain⟨L2,h2⟩:=h.next (lv':=lv) hh.2;refine⟨L2,?_⟩;rw[hxe,BK hw,<-Ex.mr P.E _ _ s lv];exact h2
theorem MZ {α:Type} {xs:D α} {x:α} (h:xs[k]?=F x):xs.drop k=x::xs.drop (k+1):=by
 obtain⟨h1,rfl⟩:=Vh.1 h;exact VB h1
theorem vM {c Vd:Nat} (h1:a<=max b Vd+24)(h2:max b Vd<=max c Vd+24*(k-(i+1)))(hi:i<k):max a Vd<=max c Vd+24*(k+1-(i+1)):=fh
theorem BM (h:a<=62*(k-(i+1)))(_hi:i<k):a<=62*(k+1-(i+1)):=fh
theorem vO (h:a<=k-(i+1))(h2:b<=a+1)(hi:i<k):b<=k+1-(i+1):=fh
theorem Hu (E:gw)(s:fV)(k:Int)(last:Bool)(m:gA)(lv hd:D Int)(ex:D (Int × Int)):(lH E s k last ⟨m,lv,hd,ex⟩).gj=hd/\(lH E s k last ⟨m,lv,hd,ex⟩).fS=ex:=by
 unfold lH;split
 ·split <;> exact⟨rfl,rfl⟩
 ·split <;> exact⟨rfl,rfl⟩
theorem Jo (E:gw)(s:fV)(k:Int)(last:Bool)(m:gA)(lv hd:D Int)(ex:D (Int × Int)):(lH E s k last ⟨m,lv,hd,ex⟩).fI.length<=lv.length+1:=by
 unfold lH;split
 ·split <;> simp[jC.wm]
 ·split <;> simp[jC.wm]
theorem ir.oF {L:jC} (h:ir B P T R0 s W L0 Ah ch Sh L Ae ce Se L' wr):fy P.Y wr:=by
 obtain⟨Av,cv,Sv,Lm,h1,_⟩:=h.st;exact h1.st.jD.2.2.2.2
theorem ir.jl {B:D (Nat × Obj)}{P:kw}{T:jy}{R0:D (D Value)}{s:fV}{W:V}{L0:D Nat}{Ah:N VQ}{ch:Nat}{Sh:D Nat}{L:jC}{Ae:N VQ}{ce:Nat}{Se L':D Nat}{wr:V}(h:ir B P T R0 s W L0 Ah ch Sh L Ae ce Se L' wr) :
  Vg wr ⟨P.g,0,I⟩=F (J P.A P.E.p.length P.c)/\Vg wr ⟨P.g,1,I⟩=F (C Z P.b.gW)/\Vg wr ⟨P.g,2,I⟩=F (C Z P.E.inl)/\Vg wr ⟨P.g,5,I⟩=F (X P.E.gT)/\Vg wr ⟨P.g,6,I⟩=F (C Z P.E.fO)/\Vg wr ⟨P.g,7,I⟩=F (C Z L.m.most)/\Vg wr ⟨P.g,8,I⟩=F (C Z P.E.args)/\Vg wr ⟨P.g,9,I⟩=F (C Z L.m.fv)/\Vg wr ⟨P.g,12,I⟩=F (X L.m.start)/\(∀ j,VE wr ⟨P.g,j,I⟩=M)/\P.g<wr.heap.size:=by
 obtain⟨Av,cv,Sv,Lm,h1,_⟩:=h.st;exact h1.st.jl
theorem ir.uL {B:D (Nat × Obj)}{P:kw}{T:jy}{R0:D (D Value)}{s:fV}{W:V}{L0:D Nat}{Ah:N VQ}{ch:Nat}{Sh:D Nat}{L:jC}{Ae:N VQ}{ce:Nat}{Se L':D Nat}{wr:V}(h:ir B P T R0 s W L0 Ah ch Sh L Ae ce Se L' wr):∃ Ai ci,Vg wr ⟨P.g,10,I⟩=F (J Ai L.m.fx.length ci):=by
 obtain⟨Av,cv,Sv,Lm,h1,_⟩:=h.st;exact h1.st.uL
theorem ID {a:D (Int × Int)} {x:Int × Int} (h:a.length<=62*(k-(i+1)))(hi:i<k):(a++[x]).length<=62*(k+1-(i+1)):=by
 rw[Vk,Wi];omega
theorem RW (h:a<=62*(k-(i+1)))(hb:b<=a+(k-i))(hi:i<k)(hk:k<=60):b<=62*(k+1-(i+1)):=fh
theorem Gu (p:D fB)(k item:Int):∀(n i:Nat),(mZ p k item n i).length<=n
 | 0,_=>Vz _
 | n+1,i=>by
  have:=Gu p k item n (i+1);unfold mZ;split
  ·rw[VC];omega
  ·omega
theorem M6 {k:Int} (h:i<j)(he:kH p i=k):mZ p k item (j-i) i=(jA p i+1,item)::mZ p k item (j-(i+1)) (i+1):=by
 rw[show j-i=j-(i+1)+1 from fh];show (if kH p i=k then _ else _)=_;rw[Vs he]
theorem N3 {k:Int} (h:i<j)(he:¬ kH p i=k):mZ p k item (j-i) i=mZ p k item (j-(i+1)) (i+1):=by
 rw[show j-i=j-(i+1)+1 from fh];show (if kH p i=k then _ else _)=_;rw[Vo he]
theorem M1 {k:Int}:mZ p k item (i-i) i = []:=by rw[Ws];rfl
theorem QA {E:gw} {k:Int} (h:i<j)(he:jA E.p i=k/\(E.p[i]?.map fB.fC)=F 5):pE E k ft gj (j-i) i m=pE E k ft gj (j-(i+1)) (i+1) (zC E m 10 (gj.getD i 0) k ft):=by
 rw[show j-i=j-(i+1)+1 from fh];show pE E k ft gj _ _ (if _ then _ else _)=_;rw[Vs he]
theorem Kp {E:gw} {k:Int} (h:i<j)(he:¬ (jA E.p i=k/\(E.p[i]?.map fB.fC)=F 5)):pE E k ft gj (j-i) i m=pE E k ft gj (j-(i+1)) (i+1) m:=by
 rw[show j-i=j-(i+1)+1 from fh];show pE E k ft gj _ _ (if _ then _ else _)=_;rw[Vo he]
theorem Qz {E:gw} {k:Int}:pE E k ft gj (i-i) i m=m:=by rw[Ws];rfl
theorem GH {w:V} {p:VQ} {v:Value} (h:w.cell? p=F v)(n:Nat):(w.drewN n).cell? p=F v:=za ((fy.refl _).drewN n) h
theorem ir.DO {L:jC} {o:Obj} (h:ir B P T R0 s W L0 Ah ch Sh L Ae ce Se L' wr)(hg:fy wr w2)(hb:w2.heap[g]?=F o)(hl:wr.heap.size<=g):ir ((g,o)::B) P T R0 s W L0 Ah ch Sh L Ae ce Se L' w2:=by
 have h1:=h.fH hg;refine⟨h1.st,h1.on,h1.nw,h1.hd,h1.ex,h1.dh,h1.de,fun p hp=>?_⟩;rcases VT.1 hp with rfl | hp
 ·exact⟨hb,fun hm=>by have:=h.AZ _ hm;simp only at this;omega,fun hm=>by have:=h.hd.lt _ hm;simp only at this;omega,fun hm=>by have:=h.ex.lt _ hm;simp only at this;omega⟩
 ·exact h1.kb p hp
theorem ir.row {B:D (Nat × Obj)}{P:kw}{T:jy}{R0:D (D Value)}{s:fV}{W:V}{L0:D Nat}{Ah:N VQ}{ch:Nat}{Sh:D Nat}{L:jC}{Ae:N VQ}{ce:Nat}{Se L':D Nat}{wr:V}(h:ir B P T R0 s W L0 Ah ch Sh L Ae ce Se L' wr):∃ gs cs Av cv,
  Vg wr ⟨P.g,11,I⟩=F (J (F ⟨gs,0,I⟩) (R0.length+1) cs)/\Vg wr ⟨gs,R0.length*6,I⟩=F (C Z s.f)/\Vg wr ⟨gs,R0.length*6+1,I⟩=F (J T.Ac s.ft.length T.cc)/\Vg wr ⟨gs,R0.length*6+2,I⟩=F (J T.Al s.fM.length T.cl)/\Vg wr ⟨gs,R0.length*6+3,I⟩=F (C Z s.first)/\Vg wr ⟨gs,R0.length*6+4,I⟩=F (X s.iu)/\Vg wr ⟨gs,R0.length*6+5,I⟩=F (J Av L.fI.length cv)/\gs<wr.heap.size/\(∀ j,VE wr ⟨gs,j,I⟩=M)/\
  (jB.sl 9).R wr wr.heap.size [J T.Al s.fM.length T.cl] s.fM/\∃ o,wr.heap[P.g]?=F o:=by
 obtain⟨Av,cv,Sv,Lm,hB,_⟩:=h.st;obtain⟨gs,cs,a0,h0,h1,h2,h3,h4,h5,hl,_,hf,_⟩:=hB.row;obtain⟨Ai,ci,Si,As,a1,Ss,hM,_⟩:=id hB.st;exact⟨gs,cs,Av,cv,a0,h0,h1,h2,h3,h4,h5,hl,hf,hB.fM.read,_,hM.box⟩
theorem Ie (w:V):∀ n,gz zv w (VP n (C Z 0)) (VP n 0) []
 | 0=>⟨rfl,rfl⟩
 | n+1=>by
  rw[List.replicate_succ,List.replicate_succ];exact⟨[C Z 0],VP n (C Z 0),[],[],rfl,rfl,⟨rfl,gv,gv,rfl⟩,Ie w n⟩
theorem OU (n:Nat):(WO #[C Z 0] n).toList=VP n (C Z 0):=by
 apply List.ext_getElem
 ·simp[WO]
 ·intro i h1 h2
  simp[WO,Nat.mod_one]
theorem PY {n:Nat} (hg:W.heap[g]?=F (U (WO #[C Z 0] n) 3 (0,0)))(hn:n<=9223372036854775807):Has (zv.sl 3) W [J (F ⟨g,0,I⟩) n n] (VP n 0) [g]:=by
 have h:=qG (T:=zv) (xs:=VP n (0:Int)) (S:=[]) hg (by rw[OU];exact Ie W n) (by rw[Wn];exact hn);rw[Wn] at h;exact⟨h,gm⟩
theorem Ch {g:Prop} (f:g:=by
  have zf7:=hR7.jl.2.2.2.2.2.2.2.2.2.1
  go_upto_region 37 with(first | (at_builtin;refine zG (L:=L.fS.length+1) rfl (.tmp 203) (.tmp 211) Gg F4 (hR7.ex.fH gF) hra rfl rfl rfl (by intro j u hu;simpa[go_sem] using hu) rfl fh fh ?_;intro A9 c9 w9 S9 hon hH9 hS9))
  have hR8:=ir.fS (xs:=L.fS++[(ev+1,(m6.fx.length:Int))]) (hR7.fH gF) hYW hTlt (ir.AZ (hR7.fH gF)) hon (by rw[Vk];exact hH9) hS9
  have hl9:(L.fS++[((ev+1),(m6.fx.length:Int))]).length=L.fS.length+1:=by rw[Vk];rfl
  have HL9:=fk hl9
  clear hl9 hra zf7 b0 z10
  go_wp2_with(first | (go_at_call 203;refine(BT hR8 hsc hml6 h11 h00 hkI hdI6).mono ?_;rintro e9 w10 ⟨rfl,L10,hR10⟩;have y9:Vg w10 ⟨P.g,9,I⟩=F (C Z m6.fv):=hR10.jl.2.2.2.2.2.2.2.1;have yf:=hR10.jl.2.2.2.2.2.2.2.2.2.1;have yl:=hR10.jl.2.2.2.2.2.2.2.2.2.2))
  obtain⟨L11,hR11⟩:=hR10.next (lv':=L.fI) ((ia.refl hR10.st).num (m':=(zC P.E m6 11 0 k s.ft).gR (m6.fv-1)) (i:=9) (v:=C Z (m6.fv-1)) rfl (fun _ _ _ _ _ _ _ _ _=>rfl))
  rw[<-HL9.out]
  clear r4 r7 r1 r2 r6 r3
  have hok9:=HOK2.out
  have hst9:=HST2.out
  have hg9:=hG2.out
  rw[HHQ.out] at hok9 hst9 hg9
  have hc9:=hst9.cnt
  have hd9:=hst9.fv
  simp only at hc9 hd9
  have HCNT:max ((zC P.E m6 11 0 k s.ft).gR (m6.fv-1)).fx.length (200+jJ d)<=max m.fx.length (200+jJ d)+24*(k+1-(i'+1)):=vM hc9 hck hik
  have HDEP:((zC P.E m6 11 0 k s.ft).gR (m6.fv-1)).fv=m.fv:=hd9.trans ((Xj _).trans hdk)
  have HLVS:(L.fI).length<=k+1-(i'+1):=vO hvk (YY _) hik
  have HOK9:=fk hok9
  have HG9:=fk hg9
  clear hok9 hst9 hg9 hc9 hd9
  go_roundw
  case measure=>(clear hn hfs hd hcnt hd0 hd1 hsc hchl hck hdk hxk hvk hxl hvl HCNT HDEP HLVS;simp[Wj];try omega)
  case rel=>exact⟨k+1,(⟨(zC P.E m6 11 0 k s.ft).gR (m6.fv-1),L.fI,L.gj.set k (nn:Int),L.fS++[((ev+1),(m6.fx.length:Int))]⟩:jC),A9,c9,S9,L11,rfl,io,XI hik,XN hle,fk (hR11.drop (fun _ h=>by cases h)),HOK9,HDEP,HCNT,ID hxk hik,HLVS,HHK.out,HG9⟩):g:=f
theorem zq6 (hR:sr P)(hrep:DB P d):DA P d:=by
 intro T m R0 s W L a0 i e h hF hn hs cX hfs hd hm hcnt bA he hd0 hd1;obtain⟨i',e',xf,cT,dX,bq,dt,ap⟩:=hs.rP;obtain rfl:i'=i:=by rw[bA] at cT;omega
 obtain rfl:=dt.kR he;have cf:=he.len;have dM:=he.lt;have dE:=(Vh.1 dX).1;have dJ:=hR.env.pc.len;obtain⟨Av,cv,Sv,Lm,hB,rfl⟩:=h;obtain⟨gs,cs,cx,s0,s1,s2,s3,s4,s5,sl,sn,sf,sL⟩:=hB.row;obtain⟨z0,z1,z2,z5,z6,z7,z8,z9,bs,zf,zl⟩:=hB.st.jl;rw[bA] at s0;have av:=fk bA;clear bA cT;have ba:=hB.st.jD.2.2.2.2;have hYW:=ba.size;have ek:Vl Z ((R0.length:Int)+1-1)=(R0.length:Int):=by rw[XM];exact iw
 have em:Vl Z (R0.length:Int)=(R0.length:Int):=iw;have dN:(R0.length:Int)<(R0.length:Int)+1:=fh;have dU:Vl Z ((i':Int)+1)=(i':Int)+1:=iw;have cz:=fk he.ju;obtain⟨i0,hi,d3,d4,d5⟩:=Xt EP;have cm:=Gz (P:=prog) 26 3 i0 _ underlying26 hi d3 Z Z P.E.p.length P.E.p.length (Vz _) (by rw[d5];omega) fh;rw[d4,Xo] at cm;have cn:∀ w:V,(Instr.makeSlice 26 (C Z (P.E.p.length:Int)) (C Z (P.E.p.length:Int))).run prog w=.ok (J (F ⟨w.heap.size,0,I⟩) P.E.p.length P.E.p.length) (w.alloc (U (WO #[C Z 0] P.E.p.length) 3)):=fun w=>cm w;clear cm hi d3 d4 d5;have dQ:=hR.up ba;have ab:=hR.hl;go_enter func204,ntmps204;go_upto_region 0 with(fail);go_quiet (fail);go_upto_region 1 with(fail);go_quiet (fail);go_wp2_with(first | (go_at_call 160;refine(zbF (Ty.up _ dQ gF) ab).mono ?_;rw[cz.out];rintro e9 w1 ⟨rfl,cO⟩;have z0:=za (fy.trans (b:=_) gF cO) z0));have cG:fy W w1:=fy.trans (b:=_) gF cO;have eh:((w1.alloc (U (WO #[C Z 0] P.E.p.length) 3)).alloc (U #[] 264)).heap[w1.heap.size]?=F (U (WO #[C Z 0] P.E.p.length) 3 (0,0)):=zj (Vj w1 _) gF;have ee:((w1.alloc (U (WO #[C Z 0] P.E.p.length) 3)).alloc (U #[] 264)).heap[w1.heap.size+1]?=F (U #[] 264 (0,0)):=by have h:=Vj (w1.alloc (U (WO #[C Z 0] P.E.p.length) 3)) (U #[] 264);rw[VH] at h;exact h
 have bN:fy W ((w1.alloc (U (WO #[C Z 0] P.E.p.length) 3)).alloc (U #[] 264)):=cG.trans gF;obtain⟨gh,bZ⟩:∃ gh,w1.heap.size=gh:=⟨_,rfl⟩
 have c0:W.heap.size<=gh:=by have:=cG.size;omega
 rw[bZ] at eh ee |-;have e8:=fk bZ;clear bZ;generalize ((w1.alloc _).alloc _)=w2 at eh ee bN |-;have cE:∀ b∈Lm++Sv,b<W.heap.size:=fun b hb=>(VA.1 hb).elim (hB.st.jD.2.2.1 b) (hB.fI.lt b);have dR:s.wl []=s:=by unfold fV.wl;rw[<-cX]
 have hTlt:(∀ b∈T.Sc,b<W.heap.size)/\∀ b∈T.Sl,b<W.heap.size:=⟨hB.ft.lt,hB.fM.lt⟩
 have dd:Hid (ir [] P T R0 s W (Lm++Sv) (F ⟨gh,0,I⟩) P.E.p.length [gh] ⟨m,[],VP P.E.p.length 0,[]⟩ (F ⟨gh+1,0,I⟩) 0 [gh+1] (Lm++Sv) w2):=fk
  ⟨by rw[dR];exact⟨Av,cv,Sv,Lm,hB.fH bN,rfl⟩,bN.only _,fun b hb=>.inl hb,by simpa using PY eh fh,Has.iK sV ee,
   fun b hb=>by simp only[Vi] at hb;subst hb;exact⟨fun hm=>by have:=cE _ hm;omega,gm,c0⟩,
   fun b hb=>by simp only[Vi] at hb;subst hb;exact⟨fun hm=>by have:=cE _ hm;omega,fh⟩,fun p hp=>by cases hp⟩
 obtain⟨LF,bv⟩:∃ LF,oL P.E (fun k g m=>zL P.E (zX P.E d) (a0++[s.f]) k s g m) (a0++[s.f]) s e' (P.E.p.drop (i'+1)) (e'+1-(i'+1)) (i'+1) ⟨m,[],VP P.E.p.length 0,[]⟩=LF:=⟨_,rfl⟩
 have da:Hid (zX P.E (d+1) (a0++[s.f]) s m=(LF.m,LF.fI)):=fk (by
  show vm P.E (fun fs s k g m=>zL P.E (zX P.E d) fs k s g m) (a0++[s.f]) s m=_;unfold vm;simp only[av.out,cz.out,Vy,cX];rw[av.out] at bv
  rw[show e'-i'=e'+1-(i'+1) from fh,bv])
 have d9:=fk bv;have cr:mU P.E ⟨m,[],VP P.E.p.length 0,[]⟩:=⟨hm,fun j hj=>(by cases hj),fun z hz=>(by cases hz),fun a ha=>(by rw[XQ ha];simp)⟩
 clear cx s0 s1 s2 s3 s4 s5 z0 z1 z2 z5 z6 z7 z8 z9 bs bv eh ee cn;go_loopw [6,7] (fun z6 z7 wr=>∃(k:Nat) (L:jC) (Ae:N VQ) (ce:Nat) (Se L':D Nat),z6=J Ae L.fS.length ce/\z7=C Z k/\i'<k/\k<=e'+1/\Hid (ir [] P T R0 s W (Lm++Sv) (F ⟨gh,0,I⟩) P.E.p.length [gh] L Ae ce Se L' wr)/\Hid (mU P.E L)/\L.m.fv=m.fv/\max L.m.fx.length (200+jJ d)<=max m.fx.length (200+jJ d)+24*(k-(i'+1))/\L.fS.length<=62*(k-(i'+1))/\L.fI.length<=k-(i'+1)/\L.gj.length=P.E.p.length/\Hid (oL P.E (fun k g m=>zL P.E (zX P.E d) (a0++[s.f]) k s g m) (a0++[s.f]) s e' (P.E.p.drop k) (e'+1-k) k L=LF)) (fun _ z7 _=>e'+1-(Wj z7).toNat)
 case atStart=>exact⟨i'+1,_,_,0,_,_,rfl,io,fh,fh,dd,fk cr,rfl,X4 _ _,gm,gm,gm,d9⟩
 case round=>
  obtain⟨k,L,Ae,ce,Se,L',rfl,rfl,hik,eg,a6,aT,hdk,hck,hxk,hvk,bb,hG⟩:=hrel;by_cases hle:k<=e'
  ·have ca:k<P.E.p.length:=fh
   have hx:P.E.p[k]?=F P.E.p[k]:=Vq ca;generalize P.E.p[k]=x at hx
   have cV:lC P.E.p k≠0:=by
    rw[vL hx];intro h;by_cases aE:k=e'
    ·subst aE
     obtain⟨y,hy,h7⟩:=he.last;rw[hx] at hy;injection hy with hy
     rw[hy] at h;omega
    ·exact(ap k x hik fh hx).1 h
   obtain⟨ej,d2⟩:=hrep T R0 s a0 k hs hfs hd hF hn ca cV;have aq:0<=L.m.fv/\L.m.fv<=lD (d+1):=⟨fh,fh⟩
   obtain⟨aU,aW⟩:=IF hR.env hs d2 aT.out av.out he hik hle hx aq
   have hG2:Hid (oL P.E (fun k g m=>zL P.E (zX P.E d) (a0++[s.f]) k s g m) (a0++[s.f]) s e' (P.E.p.drop (k+1)) (e'+1-(k+1)) (k+1) (kV P.E (fun g m=>zL P.E (zX P.E d) (a0++[s.f]) k s g m) (a0++[s.f]) s e' k x L)=LF):=fk (by
    rw[<-hG.out,MZ hx,show e'+1-k=(e'+1-(k+1))+1 from fh]
    rfl)
   have HOK2:=fk aU;have HST2:=fk aW;have b4:jJ d<=1000:=by unfold jJ;omega
   have bR:lD (d+1)<=900:=by unfold lD;omega
   have dL:L.m.fx.length<=7000:=fh;have hxl:L.fS.length<=100000:=fh;have hvl:L.fI.length<=100000:=fh;obtain⟨gp,op,x',bC,bH,bD,bI,bM,c5,cw,p0,p1,p2,p3,q0,q1,q2,_⟩:=nA (hR.up (a6.out.oF)) ca;obtain rfl:x'=x:=by rw[hx] at cw;injection cw with h;exact h.symm
   have hkI:fQ (k:Int):=⟨fh,fh⟩
   have dH:(k:Int)<=(e':Int):=fh;have dI:(k:Int)<(P.E.p.length:Int):=fh;have eo:Vl Z ((k:Int)+1)=(k:Int)+1:=iw;obtain⟨z0,z1,z2,z5,z6,z7,z8,z9,bs,zf,zl⟩:=a6.out.jl;rw[bM] at z0;have ea:=fk bM;have HX:=fk hx;clear hx cw bM aU aW hG;have cF:=a6.out.lu (cs:=#[C Z x'.fC,Q x'.fJ,J bC x'.gD.length bH,J bD x'.Expr.length bI]) (t:=99);obtain⟨g8,bX⟩:∃ g8,wr.heap.size=g8:=⟨_,rfl⟩
   have bz:=KX (tgt:=(k:Int)) cF (fun z hz=>aT.out.fS z hz) fh hxl;obtain⟨m0,ch⟩:∃ m0,kp L.m L.fS k=m0:=⟨_,rfl⟩
   have bo:=EW (n0:=0) aT.out.mo (tgt:=(k:Int)) (es:=L.fS) aT.out.fS;rw[ch] at bz bo;rw[bX] at bz;go_upto_region 10 with(first | (go_at_call 210;refine bz.mono ?_;rintro e9 w3 ⟨rfl,L3,al⟩));have ay:=(al.kb _ (.head _)).1;simp only at ay;have e7:=fk bX;have ad:=fk ch;have bF:=fk bo;have bi:m0.fv=L.m.fv:=by have h9:=bo.fv;omega
   have co:m0.fx.length<=7000:=by have h9:=bo.cnt;omega
   clear a6 cF bz ch bX bo z0 z1 z2 z5 z6 z7 z8 z9 bs zf zl p0 p1 p2 p3;obtain⟨b0,b1,b2,b3,bf,bl⟩:=jF ay;have hchl:=hs.ft.1;have hsc:s.ft.length<=1000:=fh;have h00:fQ 0:=⟨fh,fh⟩
   by_cases k4:x'.fC=4
   ·as_aux_lemma=>
    have r4:(x'.fC == 4)=H:=V4.2 k4;obtain⟨EX,aQ⟩:∃ e,L.fS++mZ P.E.p k (m0.fx.length:Int) (k-i') i'=e:=⟨_,rfl⟩
    have aR:EX.length<=L.fS.length+(k-i'):=by rw[<-aQ,Vk];have:=Gu P.E.p k (m0.fx.length:Int) (k-i') i';omega
    have bm:(L.m.fx.length:Int)=(m0.fx.length:Int):=by rw[<-ad.out];exact WY Nat.cast ((sw _ _ _ _).2).symm
    have HHQ:Hid (kV P.E (fun g m=>zL P.E (zX P.E d) (a0++[s.f]) k s g m) (a0++[s.f]) s e' k x' L=⟨kp (zC P.E m0 10 0 k s.ft) EX (-(k:Int)),L.fI,L.gj,EX⟩):=fk (by
     unfold kV;simp only
     rw[Vs k4,ad.out,av.out,Vy,bm,aQ])
    have a8:m0.fx.length<=100000:=fh;have bj:(zC P.E m0 10 0 k s.ft).fx.length<=100000:=by rw[yx];omega
    have bK:fQ 10:=⟨fh,fh⟩
    have bS:fQ m0.fv:=⟨fh,fh⟩
    have bd:fQ (m0.fx.length:Int):=⟨fh,fh⟩
    have dW:Vl Z (-(k:Int)) = -(k:Int):=iw;have bL:EX.length<=100000:=fh
    have bE:Hid (∀ e∈EX,iW (zC P.E m0 10 0 k s.ft).fx e.2):=fk (fun e he=>by
     rw[<-aQ] at he;rcases VA.1 he with h | h
     ·exact(bF.out.keeps.jump _ (aT.out.fS e h)).l5
     ·rw[Cr _ _ _ _ _ e h]
      exact CT P.E m0 10 0 k s.ft (.inl rfl))
    have d7:=fk aQ;have au:=fk aR;clear k4 aQ aR bm;go_wp2_with(fail);go_loopw [6,9] (fun z6 z9 wr=>∃(i:Nat) (xs:D (Int × Int)) (aK:N VQ) (aP:Nat) (bt L4:D Nat),z6=J aK xs.length aP/\z9=C Z i/\i'<=i/\i<=k/\Hid (ir [(g8,U #[C Z x'.fC,Q x'.fJ,J bC x'.gD.length bH,J bD x'.Expr.length bI] 99 (0,0))] P T R0 s W (Lm++Sv) (F ⟨gh,0,I⟩) P.E.p.length [gh] ⟨m0,L.fI,L.gj,xs⟩ aK aP bt L4 wr)/\Hid (xs++mZ P.E.p k (m0.fx.length:Int) (k-i) i=EX)/\xs.length<=L.fS.length+(i-i')) (fun _ z9 _=>k-(Wj z9).toNat)
    case atStart=>exact⟨i',L.fS,Ae,ce,Se,L3,rfl,rfl,Vz _,Zj hik,fk al,d7,X4 _ _⟩
    case round=>
     obtain⟨i,xs,aK,aP,bt,L4,rfl,rfl,dB,dC,a1,bO,dY⟩:=hrel;by_cases hlt4:i<k
     ·have aD:(i:Int)<(k:Int):=fh
      have cu:Vl Z ((i:Int)+1)=(i:Int)+1:=iw;have an:=hR.up (a1.out.oF);have z0:=a1.out.jl.1;obtain⟨e4,ef,z10⟩:=a1.out.uL;simp only at z10;obtain⟨bJ,af⟩:∃ v,kH P.E.p i=v:=⟨_,rfl⟩
      have aM:=fk af;by_cases heq4:bJ=(k:Int)
      ·have aF:(bJ == (k:Int))=H:=V4.2 heq4
       obtain⟨a7,a2⟩:∃ v,jA P.E.p i=v:=⟨_,rfl⟩
       have cM : -1<=a7/\a7<=60:=by
        rcases yy P.E.p i with h | ⟨a,e2,h,h2,h3⟩
        ·omega
        ·have:=h3.len;omega
       have dT:Vl Z (a7+1)=a7+1:=iw;have b5:fQ (a7+1):=⟨fh,fh⟩
       have ac:=fk a2
       have bG:Hid ((xs++[(a7+1,(m0.fx.length:Int))])++mZ P.E.p k (m0.fx.length:Int) (k-(i+1)) (i+1)=EX):=fk (by
        have h9:=bO.out;rw[M6 hlt4 (by rw[af,heq4]),a2] at h9;rw[VM]
        exact h9)
       clear af a2 heq4;go_upto_region 17 with(first | (go_at_call 192;refine(zhN (Ty.up _ an gF) ab).mono ?_;rw[aM.out];rintro e9 w5 ⟨rfl,a4⟩;have z0:=za a4 z0;have z10:=za a4 z10) | (go_at_call 160;refine(zbF (Ty.up _ (hR.up (a1.out.fH a4).oF) gF) ab).mono ?_;rw[ac.out];rintro e9 w6 ⟨rfl,cP⟩;have z10:=za cP z10));have a5:=(a1.out.fH a4).fH cP;have ct:sV.R w6 w6.heap.size [C Z (a7+1),C Z (m0.fx.length:Int)] (a7+1,(m0.fx.length:Int)):=⟨[C Z (a7+1)],[C Z (m0.fx.length:Int)],rfl,⟨rfl,b5.1,b5.2⟩,⟨rfl,bd.1,bd.2⟩⟩
       have ep:=a5.jl.2.2.2.2.2.2.2.2.2.1;go_wp2_with(first | (at_builtin;refine zG (L:=xs.length+1) rfl (.tmp 96) (.tmp 104) Gg F4 (a5.ex.fH gF) ct rfl rfl rfl (by intro j u hu;simpa[go_sem] using hu) rfl fh fh ?_;intro A9 c9 w9 S9 hon hH9 hS9));have dj:=ir.fS (xs:=xs++[(a7+1,(m0.fx.length:Int))]) (a5.fH gF) hYW hTlt (ir.AZ (a5.fH gF)) hon (by rw[Vk];exact hH9) hS9;go_roundw
       case measure=>(clear au;simp[Wj];try omega)
       case rel=>exact⟨i+1,_,A9,c9,S9,L4,by rw[Vk];rfl,io,fh,fh,fk dj,bG,by rw[Vk,Wi];omega⟩
      ·have aF:(bJ == (k:Int))=M:=Vw.2 heq4
       have bG:Hid (xs++mZ P.E.p k (m0.fx.length:Int) (k-(i+1)) (i+1)=EX):=fk (by
        have h9:=bO.out;rw[N3 hlt4 (by rw[af];exact heq4)] at h9
        exact h9)
       clear af heq4;go_wp2_with(first | (go_at_call 192;refine(zhN (Ty.up _ an gF) ab).mono ?_;rw[aM.out];rintro e9 w5 ⟨rfl,a4⟩));go_roundw
       case measure=>(clear au;simp[Wj];try omega)
       case rel=>exact⟨i+1,xs,aK,aP,bt,L4,rfl,io,fh,fh,fk (a1.out.fH a4),bG,fh⟩
     ·obtain rfl:k=i:=fh
      have aD:¬ ((k:Int)<(k:Int)):=fh
      have dl:xs=EX:=by
       have h9:=bO.out;rw[M1,Wu] at h9;exact h9
      subst dl;go_wp2_with(first | (go_at_call 203;refine(BT a1.out hsc a8 bK h00 hkI bS).mono ?_;rintro e9 w7 ⟨rfl,L7,hR7⟩) | (go_at_call 210;refine(KX hR7 bE.out bj bL).mono ?_;rintro e9 w8 ⟨rfl,L8,hR8⟩));clear r4;have hok9:=HOK2.out;have hst9:=HST2.out;have hg9:=hG2.out;rw[HHQ.out] at hok9 hst9 hg9;have hc9:=hst9.cnt;have hd9:=hst9.fv;simp only at hc9 hd9;have HCNT:max (kp (zC P.E m0 10 0 k s.ft) xs (-(k:Int))).fx.length (200+jJ d)<=max m.fx.length (200+jJ d)+24*(k+1-(i'+1)):=vM hc9 hck hik;have HDEP:(kp (zC P.E m0 10 0 k s.ft) xs (-(k:Int))).fv=m.fv:=hd9.trans ((Xj _).trans hdk);have HLVS:(L.fI).length<=k+1-(i'+1):=vO hvk (YY _) hik;have HOK9:=fk hok9;have HG9:=fk hg9;clear hok9 hst9 hg9 hc9 hd9;go_roundw
      case measure=>(clear hn hfs hd hcnt hd0 hd1 hsc hchl hck hdk hxk hvk hxl hvl HCNT HDEP HLVS;simp[Wj];try omega)
      case rel=>exact⟨k+1,(⟨kp (zC P.E m0 10 0 k s.ft) xs (-(k:Int)),L.fI,L.gj,xs⟩:jC),aK,aP,bt,L8,rfl,io,XI hik,XN hle,fk (hR8.drop (fun _ h=>by cases h)),HOK9,HDEP,HCNT,RW hxk au.out hik fh,HLVS,bb,HG9⟩
   have r4:(x'.fC == 4)=M:=Vw.2 k4;by_cases k7:x'.fC=7
   ·have r7:(x'.fC == 7)=H:=V4.2 k7
    by_cases kee:k=e'
    ·as_aux_lemma=>
     have aE:((k:Int) == (e':Int))=H:=by rw[kee];exact beq_self_eq_true _
     obtain⟨m1,bh⟩:∃ m1,mx P.E m0 0 k s.ft=m1:=⟨_,rfl⟩
     obtain⟨LB,aw⟩:∃ LB,lH P.E s k H ⟨m1,L.fI,L.gj,L.fS⟩=LB:=⟨_,rfl⟩
     have HQ:kV P.E (fun g m=>zL P.E (zX P.E d) (a0++[s.f]) k s g m) (a0++[s.f]) s e' k x' L=⟨LB.m,LB.fI,L.gj,L.fS⟩:=by
      unfold kV;simp only;rw[Vo k4,Vs k7,Vs kee,ad.out,bh];show lH P.E s k H ⟨m1,L.fI,L.gj,L.fS⟩=_;have h9:=Hu P.E s k H m1 L.fI L.gj L.fS;rw[aw] at h9 |-;rw[<-h9.1,<-h9.2]
     have bP : -1000000<=m0.fv/\m0.fv<=1000000:=⟨fh,fh⟩
     have bQ : -1000000<=m1.fv/\m1.fv<=1000000:=by rw[<-bh];exact⟨by simp only[mx,gA.gR];omega,by simp only[mx,gA.gR];omega⟩
     have cp:m1.fx.length<=100000:=by rw[<-bh];simp only[mx,gA.gR,yx];omega
     have db:=fk bh;have aO:=fk aw;have HHQ:=fk HQ;have ai:R0.length<=100:=fh;have a8:m0.fx.length<=100000:=fh;clear k4 k7 kee bh aw HQ bi;go_wp2_with(first | (go_at_call 211;refine(Rz al hsc a8 h00 bP hkI).mono ?_;rw[db.out];rintro e9 w4 ⟨rfl,L4,a1⟩) | (go_at_call 212;refine(Li a1 hR.env hsc cp hvl bQ hkI ai).mono ?_;rw[aO.out];rintro e9 w5 ⟨rfl,L5,aV⟩));clear r4 r7;have hok9:=HOK2.out;have hst9:=HST2.out;have hg9:=hG2.out;rw[HHQ.out] at hok9 hst9 hg9;have hc9:=hst9.cnt;have hd9:=hst9.fv;simp only at hc9 hd9;have HCNT:max (LB.m).fx.length (200+jJ d)<=max m.fx.length (200+jJ d)+24*(k+1-(i'+1)):=vM hc9 hck hik;have HDEP:(LB.m).fv=m.fv:=hd9.trans ((Xj _).trans hdk);have HLVS:(LB.fI).length<=k+1-(i'+1):=vO hvk (by have h8:=Jo P.E s k H m1 L.fI L.gj L.fS;rw[aO.out] at h8;exact h8) hik;have HOK9:=fk hok9;have HG9:=fk hg9;clear hok9 hst9 hg9 hc9 hd9;go_roundw
     case measure=>(clear hn hfs hd hcnt hd0 hd1 hsc hchl hck hdk hxk hvk hxl hvl HCNT HDEP HLVS;simp[Wj];try omega)
     case rel=>exact⟨k+1,(⟨LB.m,LB.fI,L.gj,L.fS⟩:jC),Ae,ce,Se,L5,rfl,io,XI hik,XN hle,fk (aV.drop (fun _ h=>by cases h)),HOK9,HDEP,HCNT,BM hxk hik,HLVS,bb,HG9⟩
    ·as_aux_lemma=>
     have aE:((k:Int) == (e':Int))=M:=Vw.2 fh;have a8:m0.fx.length<=7000:=fh;have dV:Vl Z ((i':Int)+1)=(i':Int)+1:=iw;have bK:fQ 10:=⟨fh,fh⟩
     obtain⟨mB,ck⟩:∃ mB,pE P.E k s.ft L.gj (k-(i'+1)) (i'+1) m0=mB:=⟨_,rfl⟩
     have HHQ:Hid (kV P.E (fun g m=>zL P.E (zX P.E d) (a0++[s.f]) k s g m) (a0++[s.f]) s e' k x' L=⟨mB,L.fI,L.gj,L.fS⟩):=fk (by
      unfold kV;simp only;rw[Vo k4,Vs k7,Vo kee,ad.out,av.out,Vy,ck]
      rfl)
     have dc:=fk ck;have dr:0<=m0.fv/\m0.fv<=1000:=⟨fh,fh⟩
     clear k4 k7 kee ck;go_wp2_with(fail);go_loopw [11] (fun z11 wr=>∃(i:Nat) (m4:gA) (L4:D Nat),z11=C Z i/\i'<i/\i<=k/\Hid (ir [(g8,U #[C Z x'.fC,Q x'.fJ,J bC x'.gD.length bH,J bD x'.Expr.length bI] 99 (0,0))] P T R0 s W (Lm++Sv) (F ⟨gh,0,I⟩) P.E.p.length [gh] ⟨m4,L.fI,L.gj,L.fS⟩ Ae ce Se L4 wr)/\Hid (pE P.E k s.ft L.gj (k-i) i m4=mB)/\m4.fx.length<=7000+i/\m4.fv=m0.fv) (fun z11 _=>k-(Wj z11).toNat)
     case atStart=>exact⟨i'+1,m0,L3,io,fh,fh,fk al,dc,fh,rfl⟩
     case round=>
      obtain⟨i,m4,L4,rfl,dB,dC,a1,bu,dO,az⟩:=hrel;by_cases hlt4:i<k
      ·have aD:(i:Int)<(k:Int):=fh
       have c7:i<P.E.p.length:=fh;have dF:(i:Int)<(P.E.p.length:Int):=fh;have cu:Vl Z ((i:Int)+1)=(i:Int)+1:=iw;have an:=hR.up (a1.out.oF);obtain⟨gq,oq,xq,e1,ec,e3,ed,ak,dz,bB,y0,_⟩:=nA an c7;have an:=hR.up (a1.out.oF);have z0:=a1.out.jl.1;rw[ak] at z0 an;have ah:=a1.out.hd.1;obtain⟨a7,a2⟩:∃ v,jA P.E.p i=v:=⟨_,rfl⟩
       have ac:=fk a2;have be:(P.E.p[i]?.map fB.fC)=F xq.fC:=by rw[bB];rfl
       have bT:fQ m4.fv:=⟨fh,fh⟩
       have bk:m4.fx.length<=100000:=fh;by_cases heq4:a7=(k:Int)
       ·have aF:(a7 == (k:Int))=H:=V4.2 heq4
        by_cases hq5:xq.fC=5
        ·have dZ:(xq.fC == 5)=H:=V4.2 hq5
         have dA:i<L.gj.length:=fh;have bw:L.gj[i]?=F (L.gj[i]'dA):=Vq _;generalize L.gj[i]'dA=hv4 at bw;obtain⟨df,b9,cS,cR,ar,bc,_,_⟩:=a1.out.head hYW hTlt bw;obtain rfl:df=gh:=by injection b9 with h;injection h with h;exact h.symm
         have aL:Hid (pE P.E k s.ft L.gj (k-(i+1)) (i+1) (zC P.E m4 10 hv4 k s.ft)=mB):=fk (by
          have h9:=bu.out;rw[QA hlt4 ⟨by rw[a2,heq4],by rw[be,hq5]⟩,VR,bw] at h9
          exact h9)
         clear a2 heq4 hq5 be bB ak bw b9 ah;go_wp2_with(first | (go_at_call 160;refine(zbF (Ty.up _ an gF) ab).mono ?_;rw[ac.out];rintro e9 w5 ⟨rfl,a4⟩;have z0:=za a4 z0;have y0:=za a4 y0;have ar:=za a4 ar) | (go_at_call 203;refine(BT (a1.out.fH a4) hsc bk bK bc hkI bT).mono ?_;rintro e9 w7 ⟨rfl,L7,hR7⟩));go_roundw;exact⟨i+1,_,L7,io,fh,fh,fk hR7,aL,by rw[yx];omega,az⟩;exact iC
        ·have dZ:(xq.fC == 5)=M:=Vw.2 hq5
         have aL:Hid (pE P.E k s.ft L.gj (k-(i+1)) (i+1) m4=mB):=fk (by
          have h9:=bu.out;rw[Kp hlt4 (fun h=>hq5 (by have h8:=h.2;rw[be] at h8;injection h8))] at h9
          exact h9)
         clear a2 heq4 hq5 be bB ak ah;go_wp2_with(first | (go_at_call 160;refine(zbF (Ty.up _ an gF) ab).mono ?_;rw[ac.out];rintro e9 w5 ⟨rfl,a4⟩;have z0:=za a4 z0;have y0:=za a4 y0));go_roundw;exact⟨i+1,m4,L4,io,fh,fh,fk (a1.out.fH a4),aL,fh,az⟩;exact iC
       ·have aF:(a7 == (k:Int))=M:=Vw.2 heq4
        have aL:Hid (pE P.E k s.ft L.gj (k-(i+1)) (i+1) m4=mB):=fk (by
         have h9:=bu.out;rw[Kp hlt4 (fun h=>heq4 (by rw[<-a2];exact h.1))] at h9
         exact h9)
        clear a2 heq4 be bB ak ah;go_wp2_with(first | (go_at_call 160;refine(zbF (Ty.up _ an gF) ab).mono ?_;rw[ac.out];rintro e9 w5 ⟨rfl,a4⟩));go_roundw;exact⟨i+1,m4,L4,io,fh,fh,fk (a1.out.fH a4),aL,fh,az⟩;exact iC
      ·obtain rfl:k=i:=fh
       have aD:¬ ((k:Int)<(k:Int)):=fh
       have di:m4=mB:=by
        have h9:=bu.out;rw[Qz] at h9;exact h9
       subst di;go_wp2_with(fail);clear r4 r7;have hok9:=HOK2.out;have hst9:=HST2.out;have hg9:=hG2.out;rw[HHQ.out] at hok9 hst9 hg9;have hc9:=hst9.cnt;have hd9:=hst9.fv;simp only at hc9 hd9;have HCNT:max (m4).fx.length (200+jJ d)<=max m.fx.length (200+jJ d)+24*(k+1-(i'+1)):=vM hc9 hck hik;have HDEP:(m4).fv=m.fv:=hd9.trans ((Xj _).trans hdk);have HLVS:(L.fI).length<=k+1-(i'+1):=vO hvk (YY _) hik;have HOK9:=fk hok9;have HG9:=fk hg9;clear hok9 hst9 hg9 hc9 hd9;go_roundw
       case measure=>(clear hn hfs hd hcnt hd0 hd1 hsc hchl hck hdk hxk hvk hxl hvl HCNT HDEP HLVS;simp[Wj];try omega)
       case rel=>exact⟨k+1,(⟨m4,L.fI,L.gj,L.fS⟩:jC),Ae,ce,Se,L4,rfl,io,XI hik,XN hle,fk (a1.out.drop (fun _ h=>by cases h)),HOK9,HDEP,HCNT,BM hxk hik,HLVS,bb,HG9⟩
   have r7:(x'.fC == 7)=M:=Vw.2 k7
   have c8:k<e':=by
    rcases Y4 k e' with h | h
    ·exact h
    ·exfalso
     obtain rfl:k=e':=fh;obtain⟨y,hy,h7⟩:=he.last;rw[HX.out] at hy;injection hy with hy
     exact k7 (by rw[hy];exact h7)
   obtain⟨cH,dp,_,cI⟩:=ap k x' hik c8 HX.out;have cW:=zr.1 (hR.env.pc.kind k x' HX.out);have b6:sF x'.fC=H:=CG cW cH k4 k7;obtain⟨ee,bW,bU,dv⟩:=hR.env.pc.expr k x' HX.out b6
   have d0:zU P.E.p s.fM ee.flat=H:=by
    rw[<-bU,hs.fM.1,av.out];exact dp
   obtain⟨L4,a1⟩:=al.next (lv':=L.fI) ((ia.refl al.st).num (m':=m0.begun) (i:=12) (v:=X H) rfl (fun _ _ _ _ _ _ _ _ _=>rfl));have bx:L.gj[k]?=F (L.gj[k]'(fh)):=Vq _;generalize L.gj[k]'(fh)=hv0 at bx;obtain⟨cC,b7,c3,c2,c1,c6,c4,_⟩:=al.head hYW hTlt bx;obtain⟨cD,b8,_,_,_,_,_,bp⟩:=a1.head hYW hTlt bx;obtain rfl:cC=gh:=by injection b7 with h;injection h with h;exact h.symm
   obtain rfl:cD=cC:=by injection b8 with h;injection h with h;exact h.symm
   obtain⟨nn,cq⟩:∃ n,m0.fx.length=n:=⟨_,rfl⟩
   have cZ:L.m.fx.length=nn:=by rw[<-cq,<-ad.out];exact((sw _ _ _ _).2).symm
   have cY:fQ (nn:Int):=⟨fh,fh⟩
   have aV:=bp nn cY;have bg:jt P.E m0.begun:=⟨bF.out.ok.iM,bF.out.ok.pos⟩
   have aZ:lD d=lD (d+1)+30:=by unfold lD;omega
   have bV:=ee.size_pos;have cL:max (m0.begun).fx.length (200+jJ d)+ee.size<=8000:=by show max m0.fx.length _+_<=_;omega
   have aA:0<=(m0.begun).fv:=by show 0<=m0.fv;omega
   have aB:(m0.begun).fv+ee.size<=lD d+1:=by show m0.fv+_<=_;omega
   have ae:=UB hR hs hrep hfs hd hF hn HX.out cV aV bW bU d0 bg cL aA aB;have aa:=Ex.jE hR.env hs d2 (k:=(k:Int)) ⟨fh,fh⟩ ee m0.begun bW d0 bg aA aB;rw[<-BK bW,<-bU] at aa;obtain⟨m6,cj⟩:∃ m6,tG P.E (fun g m=>zL P.E (zX P.E d) (a0++[s.f]) k s g m) (a0++[s.f]) s k x'.Expr m0.begun=m6:=⟨_,rfl⟩
   rw[cj] at aa ae;have cJ:m6.fv=m0.fv+1:=aa.fv;have dq:m6.fx.length<=max m0.fx.length (200+jJ d)+ee.size:=aa.cnt;have hml6:m6.fx.length<=100000:=fh;have aG:=fk cj;have de:=fk aa;have aH:=fk cZ;obtain⟨Ai,ci,z10⟩:=al.uL;rw[cq] at z10;obtain⟨z0,z1,z2,z5,z6,z7,z8,z9,bs,zf,zl⟩:=al.jl;have dP:P.g≠cD:=Ne.symm c4;clear cj aa cq bp a1 bx b7 b8 cZ z1 z2 z5 z6 z7 z8;go_upto_region 32 with(first | (go_at_call 213;refine ae.mono ?_;rintro e9 w6 ⟨⟨v9,rfl⟩,L6,a5⟩));have aX:=(a5.kb _ (.head _)).1;simp only at aX;clear b0 b1 b2 b3 bf bl ay z0 z9 z10 bs zf zl c1 c2 c3;obtain⟨b0,b1,b2,b3,bf,bl⟩:=jF aX;have ds:0<=m6.fv/\m6.fv<=1000:=⟨fh,fh⟩
   have e6:=fk cJ;have HHK:Hid ((L.gj.set k (nn:Int)).length=P.E.p.length):=fk (by rw[VY];exact bb);have hdI6:fQ m6.fv:=⟨fh,fh⟩
   have dS:Vl Z (m6.fv-1)=m6.fv-1:=iw;have aY : -1000000<=m6.fv/\m6.fv<=1000000:=⟨fh,fh⟩
   have ai:R0.length<=100:=fh;have d6:=fk cI;have eb:=fk bq;clear cI cH b6 bq;clear cJ bi ae bb cL aA aB dq aZ cW dv bV sl c5 dU co cY c6 bR aq dL dM cf dE b4;by_cases k1:x'.fC=1
   ·as_aux_lemma=>
    have r1:(x'.fC == 1)=H:=V4.2 k1;have cU:=AG s.fM x'.fJ 0 (by rw[hs.fM.1,av.out];exact d6.out k1);obtain⟨ix,am⟩:∃ v,so s.fM x'.fJ 0=v:=⟨_,rfl⟩
    rw[am] at cU;have d8:Hid (nC s.fM x'.fJ 0=ix):=fk (by rw[Fz,am])
    have HHQ:Hid (kV P.E (fun g m=>zL P.E (zX P.E d) (a0++[s.f]) k s g m) (a0++[s.f]) s e' k x' L=⟨ni P.E m6 s ix k s.ft,L.fI,L.gj.set k (nn:Int),L.fS⟩):=fk (by
     unfold kV;simp only;rw[Vo k4,Vo k7,ad.out,aG.out,aH.out,Vs k1,am]
     rfl)
    have cg:=hs.fM.2;have dK:s.fM.length<=8796093022208:=fh;have dD:0<=ix/\ix<=100:=⟨fh,fh⟩
    have dx:=hs.first;have dy : -1000<=s.first/\s.first<=1000:=⟨fh,fh⟩
    have dm:=hR.env.args;have dn:0<=P.E.args/\P.E.args<=100:=⟨fh,fh⟩
    obtain⟨gs,cs,Av,cv,cx,s0,s1,s2,s3,s4,s5,sl,sf,aS,oP,d1⟩:=a5.row;simp only at s5;have e5:=fk d1;clear k1 k4 k7 am cU cg dx dm d1;go_upto_region 40 with(fail);go_cut [12] from 226 to 237 (fun v wx=>∃ aj,v=.pointer (F ⟨aj,0,I⟩)/\fy w6 wx/\wx.heap[aj]?=F (U #[C Z s.f,J T.Ac s.ft.length T.cc,J T.Al s.fM.length T.cl,C Z s.first,X s.iu,J Av L.fI.length cv] 253 (0,0))/\w6.heap.size<=aj)
    case first=>
     go_region_held3 (fun w'=>Vg w' ⟨P.g,11,I⟩=F (J (F ⟨gs,0,I⟩) (R0.length+1) cs)/\Vg w' ⟨gs,R0.length*6,I⟩=F (C Z s.f)/\Vg w' ⟨gs,R0.length*6+1,I⟩=F (J T.Ac s.ft.length T.cc)/\Vg w' ⟨gs,R0.length*6+2,I⟩=F (J T.Al s.fM.length T.cl)/\Vg w' ⟨gs,R0.length*6+3,I⟩=F (C Z s.first)/\Vg w' ⟨gs,R0.length*6+4,I⟩=F (X s.iu)/\Vg w' ⟨gs,R0.length*6+5,I⟩=F (J Av L.fI.length cv)) ((repeat' apply Vm) <;> ((repeat (first | with_reducible assumption | with_reducible refine zd ?_ _ _ | with_reducible refine zq ?_ _ | with_reducible refine zc ?_ | with_reducible refine GH ?_ _));done)) (fail)
     all_goals go_wp2_with(fail)
     all_goals go_meet
     all_goals exact⟨_,rfl,gF,zj (Vj w6 _) gF,Vz _⟩
    case rest=>
     obtain⟨aj,rfl,aC,ax,cd⟩:=hcut;obtain⟨o0,o1,o2,o3,o4,o5,of,ol⟩:=oU ax;have dk:=a5.DO aC ax cd;have dh:=Ty.up _ aS aC;have b1:=za aC b1;clear cx s0 s1 s2 s3 s4 s5 sf aS b0 b2 b3 bf bl ax;go_upto_region 41 with(fail);go_region_held3 (fun w'=>Vg w' ⟨aj,0,I⟩=F (C Z s.f)/\Vg w' ⟨aj,1,I⟩=F (J T.Ac s.ft.length T.cc)/\Vg w' ⟨aj,2,I⟩=F (J T.Al s.fM.length T.cl)/\Vg w' ⟨aj,3,I⟩=F (C Z s.first)/\Vg w' ⟨aj,4,I⟩=F (X s.iu)/\Vg w' ⟨aj,5,I⟩=F (J Av L.fI.length cv)/\Vg w' ⟨g8,1,I⟩=F (Q x'.fJ)) ((repeat' apply Vm) <;> ((repeat (first | with_reducible assumption | with_reducible refine zd ?_ _ _ | with_reducible refine zq ?_ _ | with_reducible refine zc ?_ | with_reducible refine GH ?_ _));done)) (first | (go_at_call 193;refine(zge (xs:=s.fM) (Ty.up _ dh gF) dK).mono ?_;rw[d8.out];rintro e v1 ⟨rfl,a3⟩;have a9:fy wc v1:=fy.trans (b:=_) gF a3;have o0:=za a3 o0;have o1:=za a3 o1;have o2:=za a3 o2;have o3:=za a3 o3;have o4:=za a3 o4;have o5:=za a3 o5;have b1:=za a3 b1) | (go_at_call 214;refine(TH (s:=s) (dk.fH (fy.trans (b:=_) a9 gF)) hsc hml6 dD aY dy dn hkI).mono ?_;rintro e w7 ⟨rfl,L7,hR7⟩;obtain⟨o0,o1,o2,o3,o4,o5,of,ol⟩:=oU (hR7.kb _ (.head _)).1;have b1:=(jF (hR7.kb _ (.tail _ (.head _))).1).2.1));go_wp2_with(fail);clear r4 r7 r1;have hok9:=HOK2.out;have hst9:=HST2.out;have hg9:=hG2.out;rw[HHQ.out] at hok9 hst9 hg9;have hc9:=hst9.cnt;have hd9:=hst9.fv;simp only at hc9 hd9;have HCNT:max (ni P.E m6 s ix k s.ft).fx.length (200+jJ d)<=max m.fx.length (200+jJ d)+24*(k+1-(i'+1)):=vM hc9 hck hik;have HDEP:(ni P.E m6 s ix k s.ft).fv=m.fv:=hd9.trans ((Xj _).trans hdk);have HLVS:(L.fI).length<=k+1-(i'+1):=vO hvk (YY _) hik;have HOK9:=fk hok9;have HG9:=fk hg9;clear hok9 hst9 hg9 hc9 hd9;go_roundw
     case measure=>(clear hn hfs hd hcnt hd0 hd1 hsc hchl hck hdk hxk hvk hxl hvl HCNT HDEP HLVS;simp[Wj];try omega)
     case rel=>exact⟨k+1,(⟨ni P.E m6 s ix k s.ft,L.fI,L.gj.set k (nn:Int),L.fS⟩:jC),Ae,ce,Se,L7,rfl,io,XI hik,XN hle,fk (hR7.drop (fun _ h=>by cases h)),HOK9,HDEP,HCNT,BM hxk hik,HLVS,HHK.out,HG9⟩
   have r1:(x'.fC == 1)=M:=Vw.2 k1;by_cases k2:x'.fC=2
   ·as_aux_lemma=>
    have r2:(x'.fC == 2)=H:=V4.2 k2;have dg:fQ 17:=⟨fh,fh⟩
    have HHQ:Hid (kV P.E (fun g m=>zL P.E (zX P.E d) (a0++[s.f]) k s g m) (a0++[s.f]) s e' k x' L=⟨(zC P.E m6 17 0 k s.ft).gR (m6.fv-1),L.fI,L.gj.set k (nn:Int),L.fS⟩):=fk (by
     unfold kV;simp only;rw[Vo k4,Vo k7,ad.out,aG.out,aH.out,Vo k1,Vs k2]
     rfl)
    clear k1 k2 k4 k7;go_wp2_with(first | (go_at_call 203;refine(BT a5 hsc hml6 dg h00 hkI hdI6).mono ?_;rintro e9 w7 ⟨rfl,L7,hR7⟩;have y9:Vg w7 ⟨P.g,9,I⟩=F (C Z m6.fv):=hR7.jl.2.2.2.2.2.2.2.1;have yf:=hR7.jl.2.2.2.2.2.2.2.2.2.1;have yl:=hR7.jl.2.2.2.2.2.2.2.2.2.2));obtain⟨L8,hR8⟩:=hR7.next (lv':=L.fI) ((ia.refl hR7.st).num (m':=(zC P.E m6 17 0 k s.ft).gR (m6.fv-1)) (i:=9) (v:=C Z (m6.fv-1)) rfl (fun _ _ _ _ _ _ _ _ _=>rfl));clear r4 r7 r1 r2;have hok9:=HOK2.out;have hst9:=HST2.out;have hg9:=hG2.out;rw[HHQ.out] at hok9 hst9 hg9;have hc9:=hst9.cnt;have hd9:=hst9.fv;simp only at hc9 hd9;have HCNT:max ((zC P.E m6 17 0 k s.ft).gR (m6.fv-1)).fx.length (200+jJ d)<=max m.fx.length (200+jJ d)+24*(k+1-(i'+1)):=vM hc9 hck hik;have HDEP:((zC P.E m6 17 0 k s.ft).gR (m6.fv-1)).fv=m.fv:=hd9.trans ((Xj _).trans hdk);have HLVS:(L.fI).length<=k+1-(i'+1):=vO hvk (YY _) hik;have HOK9:=fk hok9;have HG9:=fk hg9;clear hok9 hst9 hg9 hc9 hd9;go_roundw
    case measure=>(clear hn hfs hd hcnt hd0 hd1 hsc hchl hck hdk hxk hvk hxl hvl HCNT HDEP HLVS;simp[Wj];try omega)
    case rel=>exact⟨k+1,(⟨(zC P.E m6 17 0 k s.ft).gR (m6.fv-1),L.fI,L.gj.set k (nn:Int),L.fS⟩:jC),Ae,ce,Se,L8,rfl,io,XI hik,XN hle,fk (hR8.drop (fun _ h=>by cases h)),HOK9,HDEP,HCNT,BM hxk hik,HLVS,HHK.out,HG9⟩
   have r2:(x'.fC == 2)=M:=Vw.2 k2;by_cases k6:x'.fC=6
   ·as_aux_lemma=>
    have r6:(x'.fC == 6)=H:=V4.2 k6;obtain⟨LB,aw⟩:∃ LB,lH P.E s k M ⟨m6,L.fI,L.gj.set k (nn:Int),L.fS⟩=LB:=⟨_,rfl⟩
    have aO:=fk aw
    have HHQ:Hid (kV P.E (fun g m=>zL P.E (zX P.E d) (a0++[s.f]) k s g m) (a0++[s.f]) s e' k x' L=⟨LB.m,LB.fI,L.gj.set k (nn:Int),L.fS⟩):=fk (by
     unfold kV;simp only;rw[Vo k4,Vo k7,ad.out,aG.out,aH.out,Vo k1,Vo k2,Vs k6];have h9:=Hu P.E s k M m6 L.fI (L.gj.set k (nn:Int)) L.fS;rw[aw] at h9 |-
     rw[<-h9.1,<-h9.2])
    clear k1 k2 k4 k7 k6 aw;go_wp2_with(first | (go_at_call 212;refine(Li a5 hR.env hsc hml6 hvl aY hkI ai).mono ?_;rw[aO.out];rintro e9 w5 ⟨rfl,L5,aV⟩));clear r4 r7 r1 r2 r6;have hok9:=HOK2.out;have hst9:=HST2.out;have hg9:=hG2.out;rw[HHQ.out] at hok9 hst9 hg9;have hc9:=hst9.cnt;have hd9:=hst9.fv;simp only at hc9 hd9;have HCNT:max (LB.m).fx.length (200+jJ d)<=max m.fx.length (200+jJ d)+24*(k+1-(i'+1)):=vM hc9 hck hik;have HDEP:(LB.m).fv=m.fv:=hd9.trans ((Xj _).trans hdk);have HLVS:(LB.fI).length<=k+1-(i'+1):=vO hvk (by have h8:=Jo P.E s k M m6 L.fI (L.gj.set k (nn:Int)) L.fS;rw[aO.out] at h8;exact h8) hik;have HOK9:=fk hok9;have HG9:=fk hg9;clear hok9 hst9 hg9 hc9 hd9;go_roundw
    case measure=>(clear hn hfs hd hcnt hd0 hd1 hsc hchl hck hdk hxk hvk hxl hvl HCNT HDEP HLVS;simp[Wj];try omega)
    case rel=>exact⟨k+1,(⟨LB.m,LB.fI,L.gj.set k (nn:Int),L.fS⟩:jC),Ae,ce,Se,L5,rfl,io,XI hik,XN hle,fk (aV.drop (fun _ h=>by cases h)),HOK9,HDEP,HCNT,BM hxk hik,HLVS,HHK.out,HG9⟩
   have r6:(x'.fC == 6)=M:=Vw.2 k6;obtain⟨ev,cN⟩:∃ v,jA P.E.p k=v:=⟨_,rfl⟩
   have dw : -1<=ev/\ev<=60:=by
    rcases yy P.E.p k with h | ⟨a,e2,h,h2,h3⟩
    ·omega
    ·have:=h3.len;omega
   have aN:=fk cN;have en:Vl Z (ev+1)=ev+1:=iw;have cK:fQ (ev+1):=⟨fh,fh⟩
   have aJ:fQ (m6.fx.length:Int):=⟨fh,fh⟩
   have h11:fQ 11:=⟨fh,fh⟩
   have bn:=hR.up a5.oF;have z0:=a5.jl.1;clear cN;by_cases k3:x'.fC=3
   ·have r3:(x'.fC == 3)=H:=V4.2 k3
    obtain⟨el,aI⟩:∃ v,kH P.E.p k=v:=⟨_,rfl⟩
    have du : -1<=el/\el<=60:=by
     rcases Cv P.E.p k with h | ⟨j,h,h2⟩
     ·omega
     ·have:=h2.lt;obtain⟨z,hz,_⟩:=h2.AW;have:=(Vh.1 hz).1;omega
    have cA:=fk aI;have dW:Vl Z (-el) = -el:=iw;by_cases hge:0<=el
    ·as_aux_lemma=>
     have bY:el≥0:=hge;have ao:fQ (-el):=⟨fh,fh⟩
     have HHQ:Hid (kV P.E (fun g m=>zL P.E (zX P.E d) (a0++[s.f]) k s g m) (a0++[s.f]) s e' k x' L=⟨(zC P.E m6 11 0 k s.ft).gR (m6.fv-1),L.fI,L.gj.set k (nn:Int),L.fS++[(-el,(m6.fx.length:Int))]⟩):=fk (by
      unfold kV;simp only
      rw[Vo k4,Vo k7,ad.out,aG.out,aH.out,Vo k1,Vo k2,Vo k6,Vs ⟨k3,by rw[aI];exact hge⟩,aI])
     clear k1 k2 k3 k4 k6 k7 aI;go_upto_region 36 with(first | (go_at_call 160;refine(zbF (Ty.up _ bn gF) ab).mono ?_;rw[aN.out];rintro e9 e0 ⟨rfl,a9⟩;have b0:=za a9 b0;have z0:=za a9 z0) | (go_at_call 192;refine(zhN (Ty.up _ bn gF) ab).mono ?_;rw[cA.out];rintro e9 br ⟨rfl,ag⟩;have z0:=za ag z0;have a9:=fy.trans a9 ag));have hR7:=a5.fH a9;obtain⟨cy,cB,z10⟩:=hR7.uL;have hra:sV.R br br.heap.size [C Z (-el),C Z (m6.fx.length:Int)] ((-el),(m6.fx.length:Int)):=⟨[C Z (-el)],[C Z (m6.fx.length:Int)],rfl,⟨rfl,ao.1,ao.2⟩,⟨rfl,aJ.1,aJ.2⟩⟩
     have zf7:=hR7.jl.2.2.2.2.2.2.2.2.2.1;go_upto_region 37 with(first | (at_builtin;refine zG (L:=L.fS.length+1) rfl (.tmp 203) (.tmp 211) Gg F4 (hR7.ex.fH gF) hra rfl rfl rfl (by intro j u hu;simpa[go_sem] using hu) rfl fh fh ?_;intro A9 c9 w9 S9 hon hH9 hS9));have hR8:=ir.fS (xs:=L.fS++[(-el,(m6.fx.length:Int))]) (hR7.fH gF) hYW hTlt (ir.AZ (hR7.fH gF)) hon (by rw[Vk];exact hH9) hS9;have hl9:(L.fS++[((-el),(m6.fx.length:Int))]).length=L.fS.length+1:=by rw[Vk];rfl
     have HL9:=fk hl9;clear hl9 hra zf7 b0 z10;go_wp2_with(first | (go_at_call 203;refine(BT hR8 hsc hml6 h11 h00 hkI hdI6).mono ?_;rintro e9 w10 ⟨rfl,L10,hR10⟩;have y9:Vg w10 ⟨P.g,9,I⟩=F (C Z m6.fv):=hR10.jl.2.2.2.2.2.2.2.1;have yf:=hR10.jl.2.2.2.2.2.2.2.2.2.1;have yl:=hR10.jl.2.2.2.2.2.2.2.2.2.2));obtain⟨L11,hR11⟩:=hR10.next (lv':=L.fI) ((ia.refl hR10.st).num (m':=(zC P.E m6 11 0 k s.ft).gR (m6.fv-1)) (i:=9) (v:=C Z (m6.fv-1)) rfl (fun _ _ _ _ _ _ _ _ _=>rfl));rw[<-HL9.out];clear r4 r7 r1 r2 r6 r3;have hok9:=HOK2.out;have hst9:=HST2.out;have hg9:=hG2.out;rw[HHQ.out] at hok9 hst9 hg9;have hc9:=hst9.cnt;have hd9:=hst9.fv;simp only at hc9 hd9;have HCNT:max ((zC P.E m6 11 0 k s.ft).gR (m6.fv-1)).fx.length (200+jJ d)<=max m.fx.length (200+jJ d)+24*(k+1-(i'+1)):=vM hc9 hck hik;have HDEP:((zC P.E m6 11 0 k s.ft).gR (m6.fv-1)).fv=m.fv:=hd9.trans ((Xj _).trans hdk);have HLVS:(L.fI).length<=k+1-(i'+1):=vO hvk (YY _) hik;have HOK9:=fk hok9;have HG9:=fk hg9;clear hok9 hst9 hg9 hc9 hd9;go_roundw
     case measure=>(clear hn hfs hd hcnt hd0 hd1 hsc hchl hck hdk hxk hvk hxl hvl HCNT HDEP HLVS;simp[Wj];try omega)
     case rel=>exact⟨k+1,(⟨(zC P.E m6 11 0 k s.ft).gR (m6.fv-1),L.fI,L.gj.set k (nn:Int),L.fS++[((-el),(m6.fx.length:Int))]⟩:jC),A9,c9,S9,L11,rfl,io,XI hik,XN hle,fk (hR11.drop (fun _ h=>by cases h)),HOK9,HDEP,HCNT,ID hxk hik,HLVS,HHK.out,HG9⟩
    ·as_aux_lemma=>
     have bY:¬ (el≥0):=hge;have ao:=cK
     have HHQ:Hid (kV P.E (fun g m=>zL P.E (zX P.E d) (a0++[s.f]) k s g m) (a0++[s.f]) s e' k x' L=⟨(zC P.E m6 11 0 k s.ft).gR (m6.fv-1),L.fI,L.gj.set k (nn:Int),L.fS++[(ev+1,(m6.fx.length:Int))]⟩):=fk (by
      unfold kV;simp only
      rw[Vo k4,Vo k7,ad.out,aG.out,aH.out,Vo k1,Vo k2,Vo k6,Vo (fun h=>hge (by rw[<-aI];exact h.2)),aN.out])
     clear k1 k2 k3 k4 k6 k7 aI;go_upto_region 36 with(first | (go_at_call 160;refine(zbF (Ty.up _ bn gF) ab).mono ?_;rw[aN.out];rintro e9 e0 ⟨rfl,a9⟩;have b0:=za a9 b0;have z0:=za a9 z0) | (go_at_call 192;refine(zhN (Ty.up _ bn gF) ab).mono ?_;rw[cA.out];rintro e9 br ⟨rfl,ag⟩;have z0:=za ag z0;have a9:=fy.trans a9 ag));have hR7:=a5.fH a9;obtain⟨cy,cB,z10⟩:=hR7.uL;have hra:sV.R br br.heap.size [C Z (ev+1),C Z (m6.fx.length:Int)] ((ev+1),(m6.fx.length:Int)):=⟨[C Z (ev+1)],[C Z (m6.fx.length:Int)],rfl,⟨rfl,ao.1,ao.2⟩,⟨rfl,aJ.1,aJ.2⟩⟩
     exact Ch
   as_aux_lemma=>
   have r3:(x'.fC == 3)=M:=Vw.2 k3
   have HHQ:Hid (kV P.E (fun g m=>zL P.E (zX P.E d) (a0++[s.f]) k s g m) (a0++[s.f]) s e' k x' L=⟨(zC P.E m6 11 0 k s.ft).gR (m6.fv-1),L.fI,L.gj.set k (nn:Int),L.fS++[(ev+1,(m6.fx.length:Int))]⟩):=fk (by
    unfold kV;simp only
    rw[Vo k4,Vo k7,ad.out,aG.out,aH.out,Vo k1,Vo k2,Vo k6,Vo (fun h=>k3 h.1),aN.out])
   clear k1 k2 k3 k4 k6 k7;go_upto_region 36 with(first | (go_at_call 160;refine(zbF (Ty.up _ bn gF) ab).mono ?_;rw[aN.out];rintro e9 w7 ⟨rfl,cQ⟩;have b0:=za cQ b0));have hR7:=a5.fH cQ;obtain⟨cy,cB,z10⟩:=hR7.uL;have ao:=cK;have hra:sV.R w7 w7.heap.size [C Z (ev+1),C Z (m6.fx.length:Int)] ((ev+1),(m6.fx.length:Int)):=⟨[C Z (ev+1)],[C Z (m6.fx.length:Int)],rfl,⟨rfl,ao.1,ao.2⟩,⟨rfl,aJ.1,aJ.2⟩⟩
   exact Ch
  ·obtain rfl:k=e'+1:=fh
   have ei:¬ (((e'+1:Nat):Int)<=(e':Int)):=fh;have dG:¬ ((e':Int)+1<=(e':Int)):=fh;have HL:Hid (L=LF):=fk (by have h9:=hG.out;rw[Ws] at h9;rw[<-h9];cases P.E.p.drop (e'+1) <;> rfl);go_wp2_with(fail);exact Wp (v:=.tuple #[]) (by simp[VF,results204,go_sem]) rfl ⟨rfl,by rw[da.out,<-HL.out];exact⟨L',a6.out.st,a6.out.on,a6.out.nw⟩⟩
end Go.Proofs.YthgbglbaemelhaaGreat
