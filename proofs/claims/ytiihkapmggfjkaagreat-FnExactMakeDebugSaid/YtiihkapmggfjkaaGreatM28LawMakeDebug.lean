/-
  PART.
-/
import Derived.Test.YtiihkapmggfjkaaGreatM27LawMakeDebug
set_option linter.unusedVariables false
set_option linter.unusedSimpArgs false
set_option maxRecDepth 100000
set_option maxHeartbeats 8000000
namespace Go.Proofs.YtiihkapmggfjkaaGreat
open Value renaming slice->J,int->F,bool->X,string->G
open IntKind renaming i64->I,wrap->Ll
open Option renaming none->V,some->H
open Obj renaming cells->C
open Bool renaming false->U,true->M
open Go renaming World->N,results->Ly,Value->LA,Calls->LR,Addr->Mh,yielded->NA
open World renaming cell?->Lg,frozen?->LD
open List renaming length_cons->LJ,length_nil->Mk,take_succ_cons->Mm,take_zero->MN
open RowKit renaming intOf->Ml
open Ending renaming returned->NB
open Region renaming wanted->MI,ready->MK,Mode->Nz,noSelect->ND,free->Oq
open Tryz
open Go.RowKit
variable {Ae Ah:K Mh}{B:Q (Nat × Obj)}{L' L0 Se Sh:Q Nat}{P:ig}{R0:Q (Q LA)}{T:gT}{W w2 wr:N}{ce ch d k:Nat}{hd lv:Q Int}{line:Int}{m:fW}{s:fL}{xl:fG}
theorem yT:∀(l:Q fG)(i:Nat),∀ x∈iS l i,(i:Int)<=x
 | [],_,x,h=>by cases h
 | y::r,i,x,h=>by
  unfold iS at h;split at h
  ·rcases LU.1 h with rfl | h
   ·exact N2 _
   ·have:=yT r (i+1) x h;omega
  ·have:=yT r (i+1) x h;omega
theorem CB:∀(l:Q fG)(i g:Nat),((iS l i).filter fun k=>decide (k<((i+g:Nat):Int))).length=((l.take g).filter fun x=>decide (x.Kind=0)).length
 | [],_,g=>by simp[iS]
 | y::r,i,0=>by
  simp only[MN,List.filter_nil,Mk,M3,List.filter_eq_nil_iff,LQ];intro a ha;have:=yT _ _ a ha;omega
 | y::r,i,g+1=>by
  have ih:=CB r (i+1) g;rw[show i+1+g=i+(g+1) from by omega] at ih;unfold iS;by_cases h:y.Kind=0
  ·rw[Lu h,Mm,Nw,Nw,Lu (by simp;omega),Lu (by simpa using h),LJ,LJ,ih]
  ·rw[Lt h,Mm,Nw,Lt (by simpa using h),ih]
theorem Fb (p:Q fG)(g:Nat):nL p (g:Int)=(((p.take g).filter fun x=>decide (x.Kind=0)).length:Int):=by
 unfold nL zk;have h:=CB p 0 g;rw[Mb] at h;rw[h]
theorem yY:∀(l:Q D)(v:D)(i:Nat),ja l v i=m5 l v i
 | [],_,_=>rfl
 | y::r,v,i=>by
  unfold ja m5;by_cases h:v=y
  ·rw[Lu h,Lu h.symm]
  ·rw[Lt h,Lt (fun e=>h e.symm),yY r]
def EG (P:ig)(T:gT)(R0:Q (Q LA))(s:fL)(rep:Int->fW->fW)(fs:Q Int)(k d:Nat):Prop:=∀(m:fW)(W:N)(L:Q Nat)(g:Int)(A2:K Mh)(n2 c2:Nat),mH P T m R0 s W L->iq P.E m->m.items.length<200->isFun P.E.p g->zT P.E fs m g=M->((zU P.E.p g).length:Int)<=m.depth->m.depth<=iP d->
 LR prog 257 #[.pointer (H ⟨P.g,0,V⟩),F I g,F I k,.agg #[F I s.f,J T.Ac s.chain.length T.cc,J T.Al s.locals.length T.cl,F I s.first,X s.outer,J A2 n2 c2]] W fun r W'=>r=.returned (.tuple #[])/\gA P T (rep g m) R0 s W L W'
theorem zs1 {rep:Int->fW->fW} {fs:Q Int} (hR:kX P)(hs:iA P.E s)(hrW:EG P T R0 s rep fs k d)(hrO:pz P.E rep fs d)(hF:iW fs (R0++[j0 s T V 0]))(hn:R0.length<=3)(hx:P.E.p[k]?=H xl) :
  ∀(n:Nat) (e:Ex),e.size<=n->∀{a:Nat} {rs:Q gu} {m:fW} {W:N} {L:Q Nat},mH P T m R0 s W L->e.wf->xl.Expr.drop a=e.flat++rs->zB P.E.p s.locals e.flat=M->iq P.E m->max m.items.length (200+iE d)+e.size<=8000->0<=m.depth->m.depth+e.size<=iP d+1->
  LR prog 241 #[.pointer (H ⟨P.g,0,V⟩),F I k,F I a] W fun r W'=>r=.returned (F I ((a+e.size:Nat):Int))/\gA P T (e.comp P.E rep fs s k m) R0 s W L W':=by
 intro n;induction n with
 | zero=>intro e he;have:=e.size_pos;omega
 | succ n ih=>
 intro e he a rs m W L h hw hd aG hm ac d0 b2
 match e,he,hw,hd,aG,ac,b2 with
 | .node t ks,he,hw,hd,aG,ac,b2=>
 obtain⟨Av,cv,Sv,Lm,hB,rfl⟩:=h;have cm:=(Lh.1 hx).1;have co:=hR.env.pc.len;have bH:=(hR.hs xl (LP hx)).2;obtain⟨gs,cs,ba,s0,s1,s2,s3,s4,s5,sl,sn,sf,sL⟩:=hB.row;have ce:=hB.st.iX.2.2.2.2;have cU:=hB.st.iX.2.1;obtain⟨zf,zl⟩:=hB.st.fz;have db:Ll I ((R0.length:Int)+1-1)=(R0.length:Int):=by rw[M7];exact iw
 have dc:Ll I (R0.length:Int)=(R0.length:Int):=iw;have cr:(R0.length:Int)<(R0.length:Int)+1:=by omega
 obtain⟨Ai,ci,Si,As,cR,Ss,hM,bY⟩:=id hB.st;have bL:=fE hM.box;clear hM bY;go_enter func241,ntmps241;go_upto_region 1 with(fail);go_cut [7] from 7 to 24 (fun v wx=>∃ g7,v=.pointer (H ⟨g7,0,V⟩)/\fF W wx/\wx.heap[g7]?=H (C #[F I s.f,J T.Ac s.chain.length T.cc,J T.Al s.locals.length T.cl,F I s.first,X s.outer,J Av s.leaves.length cv] 244 (0,0))/\W.heap.size<=g7)
 case first=>
  refine kC (fun w'=>Lg w' ⟨P.g,11,V⟩=H (J (H ⟨gs,0,V⟩) (R0.length+1) cs)/\Lg w' ⟨gs,R0.length*6,V⟩=H (F I s.f)/\Lg w' ⟨gs,R0.length*6+1,V⟩=H (J T.Ac s.chain.length T.cc)/\Lg w' ⟨gs,R0.length*6+2,V⟩=H (J T.Al s.locals.length T.cl)/\Lg w' ⟨gs,R0.length*6+3,V⟩=H (F I s.first)/\Lg w' ⟨gs,R0.length*6+4,V⟩=H (X s.outer)/\Lg w' ⟨gs,R0.length*6+5,V⟩=H (J Av s.leaves.length cv)) 13 (by kernel_rfl) ⟨zb ba,zb s0,zb s1,zb s2,zb s3,zb s4,zb s5⟩ (fun hH=>?_);have HJ:=J3.start (T:=zF) (K8:=zF) (e:=3) (f:=3) bL.out;have HJ:=HJ.fO ((fF.refl _).drew);generalize hYd:W.drew=Wx at HJ hH |-;clear hYd;refine .tq 0 [13] hH ?_;refine .tq 1 [13] hH ?_;refine .tq 2 [13] hH ?_;refine .tq 3 [13] hH ?_;refine .tq 4 [13] hH ?_;refine .tq 5 [13] hH ?_;refine .tq 6 [13] hH ?_;refine .tq 7 [13] hH ?_;refine .tq 8 [13] hH ?_;refine .tq 9 [13] hH ?_;refine .tq 10 [13] hH ?_;refine .tq 11 [13] hH ?_;refine fX.jj (i:=12) (by kernel_rfl) rfl (fun Le hK=>?_)
  ·go_simp
   have bx:=HJ.hg.size;have HJ:=HJ.kN (cs:=#[F I 0,J V 0 0,J V 0 0,F I 0,X U,J V 0 0]) (t:=244);refine hK.out _ _ ⟨HJ.cell ba,HJ.cell s0,HJ.cell s1,HJ.cell s2,HJ.cell s3,HJ.cell s4,HJ.cell s5⟩ ?_;clear hK;generalize World.alloc _ (C #[F I 0,J V 0 0,J V 0 0,F I 0,X U,J V 0 0] 244)=Wx at HJ |-
   try simp only[lay]
   obtain⟨o0,o1,o2,o3,o4,o5,of,ol⟩:=l8 HJ.ho;refine fX.last (by kernel_rfl) rfl (by kernel_rfl) (fun Le hK=>?_);go_simp;refine hK.out _ _ ?_;clear hK
   try simp only[lay]
   have h2:=EH HJ.ho (F I s.f) (J T.Ac s.chain.length T.cc) (J T.Al s.locals.length T.cl) (F I s.first) (X s.outer) (J Av s.leaves.length cv);have HJ:=HJ.store h2.2 h2.1 bx;go_wp2_with(fail);go_meet;exact⟨_,rfl,HJ.hg,HJ.ho,bx⟩
 case rest=>
  obtain⟨g7,rfl,ag,bo,d7⟩:=hcut;clear ba s0 s1 s2 s3 s4 s5 sf zf zl;have aD:=hB.fO ag;obtain⟨z0,z1,z2,z5,z6,z7,z8,z9,aa,zf,zl⟩:=aD.st.iG;obtain⟨gp,op,x',cJ,cP,cK,cQ,aV,cb,b8,p0,p1,p2,p3,_,_,_,h3⟩:=jb (hR.up aD.st.iX.2.2.2.2) cm;obtain rfl:x'=xl:=by rw[hx] at b8;injection b8 with h;exact h.symm
  obtain⟨b4,bu⟩:=pw (show x'.Expr.drop a=t::(ks.flat++rs) from hd);have c1:a<x'.Expr.length:=(Lh.1 b4).1;obtain⟨gt,ot,t',aQ,cf,b7,k0,k1,k2,bk,bn,bs⟩:=mj h3 c1;obtain rfl:t'=t:=by rw[b4] at b7;injection b7 with h;exact h.symm
  subst aQ;rw[aV] at z0;have cO:=fE aV;have cW:(a:Int)<(x'.Expr.length:Int):=by omega
  have d5:(k:Int)<(P.E.p.length:Int):=by omega
  have dd:Ll I ((a:Int)+1)=(a:Int)+1:=iw;have HB:=fE hB;have bK:=fE aD;have HX:=fE hx;have bJ:=fE bo;have cX:=uR hw.1;have aK:Hid (iL t'=(ks.len:Int)):=fE hw.2.1;have HW:=fE hw;clear hx b8 b7 b4 hd aV hB aD bo;go_wp2_with(first | (go_at_call 235;(with_reducible refine(zlM (t:=t') bs).mono ?_);rw[aK.out];rintro e w1 ⟨rfl,a1⟩));have ab:fF wc w1:=fF.trans (b:=_) gF a1;have az:Hid (w1.heap[wc.heap.size]?=H (C #[F I t'.Kind,F I t'.gN,G t'.Name] 159 (0,0))):=fE (zj (Lp wc _) (fF.trans (b:=_) gF a1));obtain⟨g8,b5⟩:∃ g8,wc.heap.size=g8:=⟨_,rfl⟩
  rw[b5] at az |-;have c6:W.heap.size<=g8:=by have:=ag.size;omega
  have cN:=fE b5;have al:=fE (zj bJ.out ab);have bi:∀ b∈Lm++Sv,b<W.heap.size:=fun b hb=>(LG.1 hb).elim (HB.out.st.iX.2.2.1 b) (HB.out.leaves.lt b);have au:g7∉Lm++Sv:=fun hm=>by have:=bi _ hm;omega
  have ah:g8∉Lm++Sv:=fun hm=>by have:=bi _ hm;omega
  have cu:g8≠P.g:=by omega
  have ct:g7≠P.g:=by omega
  have bT:=fE (gA.refl (⟨Av,cv,Sv,Lm,bK.out.fO ab,rfl⟩:mH P T m R0 s w1 (Lm++Sv)));have cn:ks.size<=n:=by simp only[Ex.size] at he;omega
  have bb:=fE bu
  have av:zD P.E.p s.locals t'=M/\zB P.E.p s.locals ks.flat=M:=by
   have h9:=aG;simp only[Ex.flat,zB,List.all_cons,LC] at h9;exact h9
  have aM:=fE av;have bA:=ks.jd;simp only[Ex.size] at ac b2 he;have c2:iP d<=900:=by unfold iP;omega
  have br:iE d<=8000:=by omega
  have cY:a+1+ks.size<=x'.Expr.length:=by
   have h9:=MY List.length bb.out;rw[Lj,ks.gw,NM] at h9;omega
  have bR:=fE hm;clear b5 bu aG av hw z0 z1 z2 z5 z6 z7 z8 z9 aa zf zl p0 p1 p2 p3 k0 k1 k2 hm;go_loopw [2,9] (fun z2 z9 wr=>∃(nx:Nat) (qs:gj) (mq:fW),z2=F I nx/\z9=F I (qs.len:Int)/\nx+qs.size=a+1+ks.size/\qs.len<=ks.len/\qs.size<=ks.size/\ks.len+qs.size<=ks.size+qs.len/\Hid (x'.Expr.drop nx=qs.flat++rs)/\Hid qs.wf/\Hid (zB P.E.p s.locals qs.flat=M)/\Hid (gA P T mq R0 s w1 (Lm++Sv) wr)/\Hid (qs.comp P.E rep fs s k mq=ks.comp P.E rep fs s k m)/\Hid (iq P.E mq)/\mq.depth=m.depth+(ks.len:Int)-(qs.len:Int)/\(max mq.items.length (200+iE d)+qs.size<=7999)) (fun _ z9 _=>(Ml z9).toNat)
  case atStart=>exact⟨a+1,ks,m,by go_num,rfl,rfl,Lz _,Lz _,by omega,bb,fE HW.out.2.2,fE aM.out.2,bT,fE rfl,bR,by omega,by omega⟩
  case round=>
   obtain⟨nx,qs,mq,rfl,rfl,aH,bE,bF,bB,hD,bm,bZ,hN,hC,aU,aE,bt⟩:=hrel;cases qs with
   | cons e1 r=>
    simp only[gj.size,gj.len] at aH bE bF bB aE bt;have d9:=r.jd;have d1:=e1.size_pos;obtain⟨L1,aW,a3,a8⟩:=hN.out;have ai:=bm.out.1;have ae:x'.Expr.drop nx=e1.flat++(r.flat++rs):=by have h9:=hD.out;simpa only[gj.flat,LZ] using h9
    have a7:zB P.E.p s.locals e1.flat=M/\zB P.E.p s.locals r.flat=M:=by
     have h9:=bZ.out;simp only[gj.flat,zB,OD,LC] at h9;exact h9
    have cy:(((r.len+1:Nat)):Int) > 0:=by omega
    have bD:(0:Int)<((r.len:Int)+1):=by omega
    have de:Ll I ((r.len:Int)+1-1)=(r.len:Int):=by rw[M7];exact iw
    have cF:Ll I (r.len:Int)=(r.len:Int):=iw;have aw:=Ex.iB hR.env hs hrO (k:=(k:Int)) ⟨by omega,by omega⟩ e1 mq ai a7.1 aU.out (by omega) (by omega);have h7:=aw.cnt;have h8:=aw.depth;have h9:=aw.gK;have bU:=fE aw;have a4:=ih e1 (by omega) aW ai ae a7.1 aU.out (by omega) (by omega) (by omega);have bO:Hid (x'.Expr.drop (nx+e1.size)=r.flat++rs):=fE (by rw[<-Nh,ae,<-e1.gw,NP]);have bM:Hid (r.comp P.E rep fs s k (e1.comp P.E rep fs s k mq)=ks.comp P.E rep fs s k m):=fE (by rw[<-hC.out];rfl);have aN:=fE a7.2;have aO:=fE bm.out.2;clear aw ae a7 ai;simp only[gj.len];go_wp2_with(first | (go_at_call 241;(with_reducible refine a4.mono ?_);rintro e w2 ⟨rfl,h2⟩));go_roundw;exact⟨nx+e1.size,r,_,by go_num,by go_num,by omega,by omega,by omega,by omega,bO,aO,aN,fE (gA.trans a3 a8 h2),bM,fE bU.out.ok,by omega,by omega⟩;exact gL
   | nil=>
    simp only[gj.size,gj.len,Nat.add_zero] at aH bE bF bB aE bt;have HK:Hid (mq=ks.comp P.E rep fs s k m):=fE hC.out;obtain⟨L1,aW,a3,a8⟩:=hN.out;obtain⟨ay,aB,bg,aP,a2,rfl⟩:=aW;obtain⟨o0,o1,o2,o3,o4,o5,of,ol⟩:=l8 (lO a3 au al.out);obtain⟨k0,k1,k2,kf,kl⟩:=tM (lO a3 ah az.out);obtain⟨z0,z1,z2,z5,z6,z7,z8,z9,aa,zf,zl⟩:=a2.st.iG;have bq:=a2.chain.read;have c3:=hs.chain.1;have aI:s.chain.length<=1000:=by omega
    have ak:mq.items.length<=100000:=by omega
    have aF:fV (k:Int):=⟨by omega,by omega⟩
    have bp : -1000000<=mq.depth/\mq.depth<=1000000:=⟨by omega,by omega⟩
    have bv:fV mq.depth:=⟨by omega,by omega⟩
    have d8:¬ ((0:Int) > 0):=by omega
    have bc:=fE aE;have c4:0<=mq.depth/\mq.depth<=1000:=⟨by omega,by omega⟩
    have an:=fE aH;clear aE aH;simp only[gj.len];by_cases q0:t'.Kind=0
    ·have r0:(t'.Kind == 0)=M:=LM.2 q0
     have HQ:Hid ((Ex.node t' ks).comp P.E rep fs s k m=zZ P.E mq t'.gN k s.chain):=fE (by rw[HK.out];show kL _ _ _ _ _ _ _=_;unfold kL;rw[Lu q0]);clear q0;go_wp2_with(first | (go_at_call 239;(with_reducible refine(zkb a2.st bq aI ak bn bp aF).mono ?_);rintro e w3 ⟨rfl,h3⟩;have am:=fE (a2.next h3)));exact Ln (v:=F I (nx:Int)) (by simp[Ly,results241,go_sem]) rfl ⟨MY (fun z=>NB (F I z)) (by have h9:=an.out;simp only[Ex.size];omega),by rw[HQ.out];exact gA.from ag (gA.from ab (gA.trans a3 a8 am.out))⟩
    by_cases q1:t'.Kind=1
    ·have r0:(t'.Kind == 0)=U:=Lk.2 q0
     have r1:(t'.Kind == 1)=M:=LM.2 q1
     have bz:jy s.locals t'.Name=M:=by
      have h9:=aM.out.1;unfold zD at h9;rwa [Lu q1] at h9
     have ch:=tE s.locals t'.Name 0 bz;obtain⟨ix,a6⟩:∃ v,m5 s.locals t'.Name 0=v:=⟨_,rfl⟩
     rw[a6] at ch;have bS:Hid (ja s.locals t'.Name 0=ix):=fE (by rw[yY,a6]);have HQ:Hid ((Ex.node t' ks).comp P.E rep fs s k m=wS P.E mq s ix k):=fE (by rw[HK.out];show kL _ _ _ _ _ _ _=_;unfold kL;rw[Lt q0,Lu q1,a6]);have cq:=hs.locals.2;have cp:s.locals.length<=8796093022208:=by omega
     have cg:0<=ix/\ix<=100:=⟨by omega,by omega⟩
     have d2:=hs.first;have c5 : -1000<=s.first/\s.first<=1000:=⟨by omega,by omega⟩
     have cV:=hR.env.args;have c0:0<=P.E.args/\P.E.args<=100:=⟨by omega,by omega⟩
     have bX:=a2.locals.read;clear q0 q1 bz a6;go_upto_region 14 with(fail);clear z0 z1 z2 z5 z6 z7 z8 z9 aa k0 k1;refine kC (fun w'=>Lg w' ⟨g7,0,V⟩=H (F I s.f)/\Lg w' ⟨g7,1,V⟩=H (J T.Ac s.chain.length T.cc)/\Lg w' ⟨g7,2,V⟩=H (J T.Al s.locals.length T.cl)/\Lg w' ⟨g7,3,V⟩=H (F I s.first)/\Lg w' ⟨g7,4,V⟩=H (X s.outer)/\Lg w' ⟨g7,5,V⟩=H (J Av s.leaves.length cv)/\Lg w' ⟨g8,2,V⟩=H (G t'.Name)) 8 (by kernel_rfl) (Ls (zb o0) (Ls (zb o1) (Ls (zb o2) (Ls (zb o3) (Ls (zb o4) (Ls (zb o5) (zb k2))))))) (fun hH=>?_);have ad:fF wr wr.drew:=(fF.refl _).drew;clear o0 o1 o2 o3 o4 o5 k2;generalize wr.drew=wx at ad hH |-;obtain⟨o0,o1,o2,o3,o4,o5,k2⟩:=id hH;refine .tk 0 [8] hH ?_;refine .tk 1 [8] hH ?_;refine .tk 2 [3,6,8] hH ?_;refine .tk 3 [6,8] hH ?_;refine .tk 4 [5,6,8] hH ?_;refine .tk 5 [6,8] hH ?_;refine .tk 7 [8] hH ?_;refine fX.one (i:=6) (by kernel_rfl) rfl (fun Le hK=>?_);go_simp;go_at_call 178;(with_reducible refine(zeG (xs:=s.locals) (Ty.up _ bX ad) cp).mono ?_);rw[bS.out];rintro e v1 ⟨rfl,a1⟩;have a0:=ad.trans a1;have o0:=za a1 o0;have o1:=za a1 o1;have o2:=za a1 o2;have o3:=za a1 o3;have o4:=za a1 o4;have o5:=za a1 o5;have k2:=za a1 k2;refine hK.out _ _ (Ls o0 (Ls o1 (Ls o2 (Ls o3 (Ls o4 (Ls o5 k2)))))) (fun hI=>?_);clear hK hH;have hH:=hI
     try simp only[lay]
     refine fX.last (by kernel_rfl) rfl (by kernel_rfl) (fun Le hK=>?_);go_simp;go_at_call 255;(with_reducible refine(zs5 (a2.fO a0).st (a2.fO a0).chain.read aI ak cg bp c5 c0 aF).mono ?_);rintro e w3 ⟨rfl,h3⟩;have am:=fE ((a2.fO a0).next h3);refine hK.out _ _ ?_;clear hK
     try simp only[lay]
     go_wp2_with(fail);exact Ln (v:=F I (nx:Int)) (by simp[Ly,results241,go_sem]) rfl ⟨MY (fun z=>NB (F I z)) (by have h9:=an.out;simp only[Ex.size];omega),by rw[HQ.out];exact gA.from ag (gA.from ab (gA.trans a3 a8 (gA.from a0 am.out)))⟩
    by_cases q7:t'.Kind=7
    ·have r0:(t'.Kind == 0)=U:=Lk.2 q0
     have r1:(t'.Kind == 1)=U:=Lk.2 q1;have r7:(t'.Kind == 7)=M:=LM.2 q7;obtain⟨gi,xg,b3,aJ,ax,b9⟩:=xo aM.out.1 q7;have c8:=(Lh.1 aJ).1;have bP:=fE b3;have da:=yI HW.out.1 q7;have c7:isFun P.E.p (gi:Int):=⟨gi,rfl,xg,aJ,ax⟩
     have bQ:Hid ((zU P.E.p (gi:Int)).length=ks.len):=fE (by have h8:=aK.out;rw[uM HW.out.1 q7] at h8;rw[qk aJ];omega);have bj:t'.gN=(ks.len:Int):=by have h8:=aK.out;rw[uM HW.out.1 q7] at h8;exact h8
     have be:Hid ((Ex.node t' ks).comp P.E rep fs s k m=if zT P.E fs mq (gi:Int)=M then rep (gi:Int) mq else (zv P.E mq 12 (nL P.E.p (gi:Int)) k s.chain).fZ (mq.depth-t'.gN+1)):=fE (by rw[HK.out];show kL _ _ _ _ _ _ _=_;unfold kL;rw[Lt q0,Lt q1,Lu q7,b3])
     have bh:iW fs (R0++[j0 s T ay aB]):=by
      unfold iW at hF |-;rw[<-hF];simp[j0]
     have bC:0<(R0++[j0 s T ay aB]).length/\(R0++[j0 s T ay aB]).length<=100:=⟨by simp,by simp;omega⟩
     have bw:0<=(gi:Int)/\(gi:Int)<=1000:=⟨by omega,by omega⟩
     have cz:=hR.up a2.st.iX.2.2.2.2;have cx:=hR.hl;obtain⟨b,hb⟩:∃ b,zT P.E fs mq (gi:Int)=b:=⟨_,rfl⟩
     have aj:=fE hb;have aA:=fE bj;clear q0 q1 q7 b3 aJ ax b9 hb bj;go_upto_region 16 with(fail);clear z1 z2 z5 z6 z7 z8 z9 aa k0;refine kC (fun w'=>Lg w' ⟨P.g,0,V⟩=H (J P.A P.E.p.length P.c)/\Lg w' ⟨g8,2,V⟩=H (G t'.Name)) 7 (by kernel_rfl) (Ls (zb z0) (zb k2)) (fun hH=>?_);have ad:fF wr wr.drew:=(fF.refl _).drew;clear z0 k2;generalize wr.drew=wx at ad hH |-;obtain⟨z0,k2⟩:=id hH;refine .tk 0 [7] hH ?_;refine .tk 1 [7] hH ?_;refine .tk 2 [7] hH ?_;refine .tk 3 [7] hH ?_;refine .tk 4 [7] hH ?_;refine .tk 5 [7] hH ?_;refine fX.one (i:=6) (by kernel_rfl) rfl (fun Le hK=>?_);go_simp;go_at_call 93;(with_reducible refine(zcM (Ty.up _ cz ad) cx).mono ?_);rw[bP.out];rintro e v1 ⟨rfl,a1⟩;have a0:=ad.trans a1;have z0:=za a1 z0;have k2:=za a1 k2;refine hK.out _ _ (Ls z0 k2) (fun hI=>?_);clear hK hH;have hH:=hI
     try simp only[lay]
     refine fX.last (by kernel_rfl) rfl (by kernel_rfl) (fun Le hK=>?_);go_simp;refine hK.out _ _ ?_;clear hK
     try simp only[lay]
     have aC:=a2.fO a0;have aZ:=zj (lO a3 ah az.out) a0;have aq:=zj (lO a3 au al.out) a0;clear k1 k2 o0 o1 o2 o3 o4 o5 hH z0;cases b
     case' true=>
      go_upto_region 18 with(first | (go_at_call 256;(with_reducible refine(zko (fs:=fs) aC.st hR bh ak bC bw).mono ?_);rw[aj.out];rintro e w5 ⟨rfl,a9⟩));have af:fF _ w5:=a9;obtain⟨o0,o1,o2,o3,o4,o5,cH,cI⟩:=l8 (zj aq a9);have a4:=hrW mq w5 (aP++bg) (gi:Int) Av s.leaves.length cv ⟨ay,aB,bg,aP,aC.fO a9,rfl⟩ aU.out (qJ aj.out).2.2.1 c7 aj.out (by rw[bQ.out];have h9:=bc.out;omega) (by have h9:=bc.out;omega);go_wp2_with(first | (go_at_call 257;(with_reducible refine a4.mono ?_);rintro e w6 ⟨rfl,h6⟩));exact Ln (v:=F I (nx:Int)) (by simp[Ly,results241,go_sem]) rfl ⟨MY (fun z=>NB (F I z)) (by have h9:=an.out;simp only[Ex.size];omega),by rw[be.out,aj.out,Lu rfl];exact gA.from ag (gA.from ab (gA.trans a3 a8 (gA.from a0 (gA.from af h6))))⟩
     case' false=>
      go_upto_region 21 with(first | (go_at_call 256;(with_reducible refine(zko (fs:=fs) aC.st hR bh ak bC bw).mono ?_);rw[aj.out];rintro e w5 ⟨rfl,a9⟩));have af:fF _ w5:=a9;have aR:=aC.fO a9;have cw:=hR.up aR.st.iX.2.2.2.2;have aY:=zj aZ a9;have aX:=zj aq a9;have cG:=aR.st.iG;go_wp2_with(fail);go_loopw [11,12] (fun z11 aa wi=>∃(j c:Nat),z11=F I c/\aa=F I j/\j<=gi/\c<=j/\Hid (((P.E.p.take j).filter fun x=>decide (x.Kind=0)).length=c)/\Hid (fF w5 wi)) (fun _ aa _=>gi-(Ml aa).toNat)
      case atStart=>exact⟨0,0,rfl,rfl,Lv _,Lz _,fE rfl,fE gF⟩
      case round=>
       obtain⟨j,c,rfl,rfl,d3,cZ,aT,a5⟩:=hrel;by_cases hjl:j<gi
       ·have cj:(j:Int)<(gi:Int):=by omega
        obtain⟨gq,oq,xj,cL,cS,cM,cT,ap,cd,bG,v0,v1,v2,v3,_⟩:=jb (Ty.up _ cw a5.out) (show j<P.E.p.length by omega);have y0:=za a5.out cG.1;rw[ap] at y0;have d4:(j:Int)<(P.E.p.length:Int):=by omega
        have bf:=fE bG;clear ap bG;by_cases hk0:xj.Kind=0
        ·have ck:(xj.Kind == 0)=M:=LM.2 hk0
         have aL:Hid (((P.E.p.take (j+1)).filter fun x=>decide (x.Kind=0)).length=c+1):=fE (by rw[ME,bf.out,List.filter_append,Lj,aT.out];simp[hk0]);clear hk0;go_wp2_with(fail);go_roundw;exact⟨j+1,c+1,by go_num,by go_num,by omega,by omega,aL,fE (a5.out.trans gF)⟩;exact gL
        ·have ck:(xj.Kind == 0)=U:=Lk.2 hk0
         have aL:Hid (((P.E.p.take (j+1)).filter fun x=>decide (x.Kind=0)).length=c):=fE (by rw[ME,bf.out,List.filter_append,Lj,aT.out];simp[hk0]);clear hk0;go_wp2_with(fail);go_roundw;exact⟨j+1,c,by go_num,by go_num,by omega,by omega,aL,fE (a5.out.trans gF)⟩;exact gL
       ·obtain rfl:j=gi:=by omega
        have cj:¬ ((j:Int)<(j:Int)):=by omega
        have bN:Hid (nL P.E.p (j:Int)=(c:Int)):=fE (by rw[Fb,aT.out]);have aS:=aR.fO a5.out;have ar:=zj aY a5.out;have b1:=aS.chain.read;have bW:fV 12:=⟨by omega,by omega⟩
        have b0:fV (c:Int):=⟨by omega,by omega⟩
        obtain⟨o0,o1,o2,o3,o4,o5,cH,cI⟩:=l8 (zj aX a5.out);obtain⟨k0,k1,k2,df,dg⟩:=tM ar;have ca:fF w5 _:=a5.out;have cD:Ll I (mq.depth-t'.gN)=mq.depth-t'.gN:=Of _ ⟨by have h9:=aA.out;omega,by have h9:=aA.out;omega⟩;have cE:Ll I (mq.depth-t'.gN+1)=mq.depth-t'.gN+1:=Of _ ⟨by have h9:=aA.out;omega,by have h9:=aA.out;omega⟩;go_upto_region 27 with(first | (go_at_call 221;(with_reducible refine(zek aS.st b1 aI ak bW b0 aF bv).mono ?_);rintro e w6 ⟨rfl,h6⟩));have bd:=fE (aS.next h6);have y9:Lg w6 ⟨P.g,9,V⟩=H (F I mq.depth):=h6.c9.1;obtain⟨_,bl,ao,_⟩:=h6
        have b6:g8∉aP:=fun hm=>by
         rcases a8 g8 (LW _ hm) with h | h
         ·exact ah h
         ·have h9:=(blt az.out);omega
        have bI:=(tM (lO ao b6 ar)).2.1;obtain⟨yf,yl⟩:=bl.fz;clear k0 k1 k2 o0 o1 o2 o3 o4 o5 bl ao;refine mv 11 (by kernel_rfl) (by kernel_rfl) (fun wy hgy=>?_);have x9:=za hgy y9;have dh:=za hgy bI
        have xf:∀ j,LD wy ⟨P.g,j,V⟩=U:=by
         obtain⟨_,h1,_,_⟩:=bd.out;obtain⟨_,_,_,_,h2,_⟩:=h1;exact((h2.fO hgy).st.fz).1
        clear y9 bI yf;simp only[Mm,MN,Mr,Mt]
        repeat still_step
        refine M6 ?_;go_wp2_with(fail);exact Ln (v:=F I (nx:Int)) (by simp[Ly,results241,go_sem]) rfl ⟨MY (fun z=>NB (F I z)) (by have h9:=an.out;simp only[Ex.size];omega),by rw[be.out,aj.out,Lt (by decide),bN.out];exact gA.from ag (gA.from ab (gA.trans a3 a8 (gA.from a0 (gA.from af (gA.from a5.out ((bd.out.fO hgy).num rfl (fun _ _ _ _ _ _ _ _ _=>rfl)))))))⟩
    have r0:(t'.Kind == 0)=U:=Lk.2 q0;have r1:(t'.Kind == 1)=U:=Lk.2 q1;have r7:(t'.Kind == 7)=U:=Lk.2 q7;have d6:=yJ HW.out.1;have HQ:Hid ((Ex.node t' ks).comp P.E rep fs s k m=(zv P.E mq (5+t'.Kind-2) 0 k s.chain).fZ (mq.depth-1)):=fE (by rw[HK.out];show kL _ _ _ _ _ _ _=_;unfold kL;rw[Lt q0,Lt q1,Lt q7]);have cA:Ll I (5+t'.Kind)=5+t'.Kind:=iw;have cB:Ll I (5+t'.Kind-2)=5+t'.Kind-2:=iw;have cC:Ll I (mq.depth-1)=mq.depth-1:=iw;have b0:fV (5+t'.Kind-2):=⟨by omega,by omega⟩
    have bV:fV 0:=⟨by omega,by omega⟩
    clear q0 q1 q7;go_wp2_with(first | (go_at_call 221;(with_reducible refine(zek a2.st bq aI ak b0 bV aF bv).mono ?_);rintro e w3 ⟨rfl,h3⟩;have am:=fE (a2.next h3);obtain⟨y9,yf,yl⟩:=h3.c9;replace y9:Lg w3 ⟨P.g,9,V⟩=H (F I mq.depth):=y9;clear h3));exact Ln (v:=F I (nx:Int)) (by simp[Ly,results241,go_sem]) rfl ⟨MY (fun z=>NB (F I z)) (by have h9:=an.out;simp only[Ex.size];omega),by rw[HQ.out];exact gA.from ag (gA.from ab (gA.trans a3 a8 (am.out.num rfl (fun _ _ _ _ _ _ _ _ _=>rfl))))⟩
structure gH (B:Q (Nat × Obj))(P:ig)(T:gT)(R0:Q (Q LA))(s:fL)(W:N)(L0:Q Nat)(Ah:K Mh)(ch:Nat)(Sh:Q Nat)(L:iN)(Ae:K Mh)(ce:Nat)(Se L':Q Nat)(wr:N):Prop where
 st:mH P T L.m R0 (s.wl L.leaves) wr L'
 on:fJ L0 W wr
 nw:∀ b∈L',b∈L0∨W.heap.size<=b
 hd:Has (zF.sl 3) wr [J Ah L.fR.length ch] L.fR Sh
 ex:Has (pf.sl 265) wr [J Ae L.fT.length ce] L.fT Se
 dh:∀ b∈Sh,b∉L'/\b∉Se/\W.heap.size<=b
 de:∀ b∈Se,b∉L'/\W.heap.size<=b
 kb:∀ p∈B,wr.heap[p.1]?=H p.2/\p.1∉L'/\p.1∉Sh/\p.1∉Se
section
variable {B:Q (Nat × Obj)} {P:ig} {T:gT} {R0:Q (Q LA)} {s:fL} {W:N} {L0:Q Nat} {Ah:K Mh} {ch:Nat} {Sh:Q Nat} {L:iN} {Ae:K Mh} {ce:Nat} {Se L':Q Nat} {wr:N}
theorem gH.next {m':fW} {lv':Q Int} (h:gH B P T R0 s W L0 Ah ch Sh L Ae ce Se L' wr)(k:gA P T m' R0 (s.wl lv') wr L' w2):∃ L2,gH B P T R0 s W L0 Ah ch Sh ⟨m',lv',L.fR,L.fT⟩ Ae ce Se L2 w2:=by
 obtain⟨L2,h1,h2,h3⟩:=k;have a0:=h.on.size;refine⟨L2,h1,h.on.then h2 h.nw,fun b hb=>?_,h.hd.fU h2 (fun b hb=>(h.dh b hb).1),h.ex.fU h2 (fun b hb=>(h.de b hb).1),fun b hb=>⟨qj (fun b hb=>(h.dh b hb).1) h.hd.lt h3 b hb,(h.dh b hb).2⟩,fun b hb=>⟨qj (fun b hb=>(h.de b hb).1) h.ex.lt h3 b hb,(h.de b hb).2⟩,fun p hp=>?_⟩
 rotate_left
 ·obtain⟨k1,k2,k3⟩:=h.kb p hp
  have hl:=(blt k1)
  exact⟨(h2.block p.1 hl k2).trans k1,fun hm=>(h3 p.1 hm).elim k2 (fun h=>by omega),k3⟩
 rcases h3 b hb with hb | hb
 ·exact h.nw b hb
 ·exact .inr (by omega)
theorem gH.fO {w2:N}(h:gH B P T R0 s W L0 Ah ch Sh L Ae ce Se L' wr)(hg:fF wr w2):gH B P T R0 s W L0 Ah ch Sh L Ae ce Se L' w2:=
 ⟨h.st.fO hg,h.on.trans (hg.only _),h.nw,h.hd.fO hg,h.ex.fO hg,h.dh,h.de,fun p hp=>⟨zj (h.kb p hp).1 hg,(h.kb p hp).2⟩⟩
theorem mH.fU {m:fW}{S Lx:Q Nat}{w w2:N}(h:mH P T m R0 s w Lx)(ho:fJ S w w2)(hS:∀ b∈S,b∉Lx/\P.Y.heap.size<=b/\b∉T.Sc/\b∉T.Sl):mH P T m R0 s w2 Lx:=by
 obtain⟨Av,cv,Sv,Lm,h,rfl⟩:=h;refine⟨Av,cv,Sv,Lm,⟨h.st.fU ho (fun b hb=>⟨fun hm=>(hS b hb).1 (LW _ hm),(hS b hb).2.1⟩),h.chain.fU ho (fun b hb hm=>(hS b hm).2.2.1 hb),h.locals.fU ho (fun b hb hm=>(hS b hm).2.2.2 hb),h.leaves.fU ho (fun b hb hm=>(hS b hm).1 (Mc _ hb)),h.dc,h.dl,h.dv,h.lv⟩,rfl⟩
theorem gH.fT {A2:K Mh} {c2:Nat} {S2:Q Nat} {xs:Q (Int × Int)} (h:gH B P T R0 s W L0 Ah ch Sh L Ae ce Se L' wr)(hY:P.Y.heap.size<=W.heap.size)(hT:(∀ b∈T.Sc,b<W.heap.size)/\∀ b∈T.Sl,b<W.heap.size)
  (hL:∀ b∈L',b<wr.heap.size) (ho:fJ Se wr w2) (hH:Has (pf.sl 265) w2 [J A2 xs.length c2] xs S2) (hS:∀ b∈S2,b∈Se∨wr.heap.size<=b):gH B P T R0 s W L0 Ah ch Sh ⟨L.m,L.leaves,L.fR,xs⟩ A2 c2 S2 L' w2:=by
 have a1:=h.on.size;have a0:=h.hd.lt;refine⟨h.st.fU ho (fun b hb=>⟨(h.de b hb).1,by have:=(h.de b hb).2;omega,fun hm=>by have:=(h.de b hb).2;have:=hT.1 b hm;omega,fun hm=>by have:=(h.de b hb).2;have:=hT.2 b hm;omega⟩),?_,h.nw,h.hd.fU ho (fun b hb=>(h.dh b hb).2.1),hH,fun b hb=>⟨(h.dh b hb).1,fun hm=>?_,(h.dh b hb).2.2⟩,fun b hb=>?_,fun p hp=>?_⟩
 ·exact h.on.then ho (fun b hb=>.inr (h.de b hb).2)
 ·rcases hS b hm with h1 | h1
  ·exact(h.dh b hb).2.1 h1
  ·have:=a0 b hb;omega
 ·rcases hS b hb with h1 | h1
  ·exact h.de b h1
  ·exact⟨fun hm=>by have:=hL b hm;omega,by omega⟩
 ·obtain⟨k1,k2,k3,k4⟩:=h.kb p hp
  have hl:=(blt k1)
  exact⟨(ho.block p.1 hl k4).trans k1,k2,k3,fun hm=>(hS p.1 hm).elim k4 (fun h=>by omega)⟩
theorem gH.head (h:gH B P T R0 s W L0 Ah ch Sh L Ae ce Se L' wr)(hY:P.Y.heap.size<=W.heap.size)(hT:(∀ b∈T.Sc,b<W.heap.size)/\∀ b∈T.Sl,b<W.heap.size){k:Nat}{v:Int}(hk:L.fR[k]?=H v) :
  ∃ gh,Ah=H ⟨gh,0,V⟩/\gh<wr.heap.size/\(∀ j,LD wr ⟨gh,j,V⟩=U)/\Lg wr ⟨gh,k,V⟩=H (F I v)/\fV v/\gh≠P.g/\∀ u,fV u->gH B P T R0 s W L0 Ah ch Sh ⟨L.m,L.leaves,L.fR.set k u,L.fT⟩ Ae ce Se L' (wr.setCell ⟨gh,k,V⟩ (F I u)):=by
 obtain⟨gh,el,a6,rfl,a3,a4,_,_,_,hO,hf,hc,a0,_⟩:=mN h.hd.1 h.hd.2 hk;obtain⟨rfl,b1,b2,rfl⟩:=hO;have a1:=hc 0 _ rfl;rw[show k*zF.size+0=k from by show k*1+0=k;omega] at a1
 have a2:P.g∈L':=by
  obtain⟨Av,cv,Sv,Lm,h1,h2⟩:=h.st;rw[h2];exact LW _ h1.st.iX.1
 refine⟨gh,rfl,a4,hf,a1,⟨b1,b2⟩,fun e=>(h.dh gh a3).1 (e ▸ a2),fun u hu=>?_⟩;have hp:=a0 0 (F I u) u (by decide) rfl ⟨rfl,hu.1,hu.2,rfl⟩;rw[show k*zF.size+0=k from by show k*1+0=k;omega] at hp;have a5:=hp.2;refine⟨h.st.fU hp.2 (fun b hb=>⟨(h.dh b hb).1,by have:=(h.dh b hb).2.2;omega,fun hm=>by have:=(h.dh b hb).2.2;have:=hT.1 b hm;omega,fun hm=>by have:=(h.dh b hb).2.2;have:=hT.2 b hm;omega⟩),h.on.then hp.2 (fun b hb=>.inr (h.dh b hb).2.2),h.nw,?_,h.ex.fU hp.2 (fun b hb hm=>(h.dh b hm).2.1 hb),h.dh,h.de,fun p hp=>⟨(a5.block p.1 (Np.1 (h.kb p hp).1).1 (h.kb p hp).2.2.1).trans (h.kb p hp).1,(h.kb p hp).2⟩⟩;rw[Ma];exact⟨hp.1,h.hd.2⟩
end
theorem JM {ex:Q (Int × Int)} {v:Int} (h:gH B P T R0 s W L0 Ah ch Sh ⟨m,lv,hd,ex⟩ Ae ce Se L' wr)(hcl:s.chain.length<=1000)(hml:m.items.length<=100000)(hv:fV v)(hdp : -1000000<=m.depth/\m.depth<=1000000)(hl:fV line) :
  LR prog 239 #[.pointer (H ⟨P.g,0,V⟩),F I v,F I line,J T.Ac s.chain.length T.cc] wr fun r w'=>r=.returned (.tuple #[])/\∃ L2,gH B P T R0 s W L0 Ah ch Sh ⟨zZ P.E m v line s.chain,lv,hd,ex⟩ Ae ce Se L2 w':=by
 obtain⟨Av,cv,Sv,Lm,hB,hL⟩:=h.st;subst hL;exact(zkb (chain:=s.chain) hB.st hB.chain.read hcl hml hv hdp hl).mono fun r w' hh=>⟨hh.1,h.next (hB.next hh.2)⟩
theorem vh {ex:Q (Int × Int)} {code arg:Int} (h:gH B P T R0 s W L0 Ah ch Sh ⟨m,lv,hd,ex⟩ Ae ce Se L' wr)(hcl:s.chain.length<=1000)(hml:m.items.length<=100000)(h0:fV code)(h1:fV arg)(h2:fV line)(h3:fV m.depth) :
  LR prog 221 #[.pointer (H ⟨P.g,0,V⟩),F I code,F I arg,F I line,J T.Ac s.chain.length T.cc] wr fun r w'=>r=.returned (.tuple #[])/\∃ L2,gH B P T R0 s W L0 Ah ch Sh ⟨zv P.E m code arg line s.chain,lv,hd,ex⟩ Ae ce Se L2 w':=by
 obtain⟨Av,cv,Sv,Lm,hB,hL⟩:=h.st;subst hL;exact(zek (chain:=s.chain) hB.st hB.chain.read hcl hml h0 h1 h2 h3).mono fun r w' hh=>⟨hh.1,h.next (hB.next hh.2)⟩
theorem Ej {ex:Q (Int × Int)} {k:Int} {last:Bool} (h:gH B P T R0 s W L0 Ah ch Sh ⟨m,lv,hd,ex⟩ Ae ce Se L' wr)(he:ij P.E)(hcl:s.chain.length<=1000)(hml:m.items.length<=100000)(hlv:lv.length<=100000)(hdp : -1000000<=m.depth/\m.depth<=1000000)(hk:fV k)(hn:R0.length<=100) :
  LR prog 240 #[.pointer (H ⟨P.g,0,V⟩),F I k,X last] wr fun r w'=>r=.returned (.tuple #[])/\∃ L2,gH B P T R0 s W L0 Ah ch Sh ⟨(zR P.E s k last ⟨m,lv,hd,ex⟩).m,(zR P.E s k last ⟨m,lv,hd,ex⟩).leaves,hd,ex⟩ Ae ce Se L2 w':=
 (zsq (K6:=hd) (Lb:=ex) h.st he hcl hml hlv hdp hk hn).mono fun r w' hh=>⟨hh.1,h.next hh.2⟩
theorem El {ex:Q (Int × Int)} {tgt:Int} (h:gH B P T R0 s W L0 Ah ch Sh ⟨m,lv,hd,ex⟩ Ae ce Se L' wr)(hj:∀ e∈ex,ie m.items e.2)(hml:m.items.length<=100000)(hel:ex.length<=100000) :
  LR prog 238 #[.pointer (H ⟨P.g,0,V⟩),J Ae ex.length ce,F I tgt] wr fun r w'=>r=.returned (.tuple #[])/\∃ L2,gH B P T R0 s W L0 Ah ch Sh ⟨zV m ex tgt,lv,hd,ex⟩ Ae ce Se L2 w':=by
 obtain⟨Av,cv,Sv,Lm,hB,hL⟩:=h.st;subst hL;exact(zsu (tgt:=tgt) hB.st h.ex (fun b hb hm=>(h.de b hb).1 (LW _ hm)) hj hml hel).mono fun r w' hh=>⟨hh.1,h.next (hB.next hh.2)⟩
theorem gH.uo {L:iN} (h:gH B P T R0 s W L0 Ah ch Sh L Ae ce Se L' wr):∀ b∈L',b<wr.heap.size:=by
 obtain⟨Av,cv,Sv,Lm,h1,rfl⟩:=h.st;exact fun b hb=>(LG.1 hb).elim (h1.st.iX.2.2.1 b) (h1.leaves.lt b)
theorem gH.pe {L:iN} {cs:Array LA} {t:TypeId} (h:gH B P T R0 s W L0 Ah ch Sh L Ae ce Se L' wr) :
  gH ((wr.heap.size,C cs t (0,0))::B) P T R0 s W L0 Ah ch Sh L Ae ce Se L' (wr.alloc (C cs t)):=by
 have hg:fF wr (wr.alloc (C cs t)):=(fF.refl _).alloc _;have h1:=h.fO hg;refine⟨h1.st,h1.on,h1.nw,h1.hd,h1.ex,h1.dh,h1.de,fun p hp=>?_⟩;rcases LU.1 hp with rfl | hp
 ·exact⟨Lp _ _,fun hm=>by have:=h.uo _ hm;simp only at this;omega,fun hm=>by have:=h.hd.lt _ hm;simp only at this;omega,fun hm=>by have:=h.ex.lt _ hm;simp only at this;omega⟩
 ·exact h1.kb p hp
theorem gH.drop {B':Q (Nat × Obj)} {L:iN} (h:gH B P T R0 s W L0 Ah ch Sh L Ae ce Se L' wr)(hs:∀ p∈B',p∈B):gH B' P T R0 s W L0 Ah ch Sh L Ae ce Se L' wr:=
 ⟨h.st,h.on,h.nw,h.hd,h.ex,h.dh,h.de,fun p hp=>h.kb p (hs p hp)⟩
theorem J6 (E:gd)(rep:Int->fW->fW)(fs:Q Int)(s:fL)(lv:Q Int)(k:Int)(t:gu)(m:fW):kL E rep fs (s.wl lv) k t m=kL E rep fs s k t m:=rfl
mutual
theorem Ex.ky (E:gd)(rep:Int->fW->fW)(fs:Q Int)(s:fL)(lv:Q Int)(k:Int):∀(e:Ex)(m:fW),e.comp E rep fs (s.wl lv) k m=e.comp E rep fs s k m
 | .node t ks,m=>by simp only[Ex.comp,gj.ky E rep fs s lv k ks,J6]
theorem gj.ky (E:gd)(rep:Int->fW->fW)(fs:Q Int)(s:fL)(lv:Q Int)(k:Int):∀(ks:gj)(m:fW),ks.comp E rep fs (s.wl lv) k m=ks.comp E rep fs s k m
 | .nil,_=>rfl
 | .cons e r,m=>by simp only[gj.comp,Ex.ky E rep fs s lv k e,gj.ky E rep fs s lv k r]
end
def wO (P:ig)(d:Nat):Prop:=∀(T:gT)(R0:Q (Q LA))(s:fL)(fs0:Q Int)(k:Nat),iA P.E s->(fs0++[s.f]).length=s.chain.length+1->s.chain.length+d=3->iW fs0 R0->R0.length<=3->k<P.E.p.length->zG P.E.p k≠0->
 EG P T R0 s (fun g m=>zE P.E (zH P.E d) (fs0++[s.f]) k s g m) (fs0++[s.f]) k d/\pz P.E (fun g m=>zE P.E (zH P.E d) (fs0++[s.f]) k s g m) (fs0++[s.f]) d
theorem GF (hE:ij P.E):wO P 0:=by
 intro T R0 s a0 k hs a1 hd hF hn hk a2;refine⟨fun m W L g A2 n2 c2 _ _ _ _ hrep _ _=>?_,fun g m _ _ _ hrep=>?_⟩
 all_goals
  have h1:=(qJ hrep).1
  have h2:=hE.inl.2
  exfalso
  omega
theorem GD (hR:kX P)(hL:wN P d):wO P (d+1):=by
 intro T R0 s a2 k hs a0 hd hF hn hk a1;refine⟨fun m W L g A2 n2 c2 h hm hc hg hrep h0 h1=>zqe hL hR h hF hs hd a0 hm hc hg hrep h0 h1 hk a1,?_⟩;exact xF hR.env hs (uL hR.env d) a0 hd hk a1
theorem J0 {ex:Q (Int × Int)} {i:Int} {Av:K Mh} {nv cv:Nat} (h:gH B P T R0 s W L0 Ah ch Sh ⟨m,lv,hd,ex⟩ Ae ce Se L' wr)(hcl:s.chain.length<=1000)(hml:m.items.length<=100000)(hi:0<=i/\i<=100)(hdp : -1000000<=m.depth/\m.depth<=1000000)(hf : -1000<=s.first/\s.first<=1000)(ha:0<=P.E.args/\P.E.args<=100)(hl:fV line) :
  LR prog 242 #[.pointer (H ⟨P.g,0,V⟩),.agg #[F I s.f,J T.Ac s.chain.length T.cc,J T.Al s.locals.length T.cl,F I s.first,X s.outer,J Av nv cv],F I i,F I line,J T.Ac s.chain.length T.cc] wr fun r w'=>r=.returned (.tuple #[])/\∃ L2,gH B P T R0 s W L0 Ah ch Sh ⟨jC P.E m s i line s.chain,lv,hd,ex⟩ Ae ce Se L2 w':=by
 obtain⟨a0,a1,Sv,Lm,hB,hL⟩:=h.st;subst hL;exact(zpn (s:=s) (chain:=s.chain) (Ac:=T.Ac) (cc:=T.cc) hB.st hB.chain.read hcl hml hi hdp hf ha hl).mono fun r w' hh=>⟨hh.1,h.next (hB.next hh.2)⟩
theorem JU {ex:Q (Int × Int)} {fs0:Q Int} {e:Ex} (hR:kX P)(hs:iA P.E s)(hrep:wO P d)(hfs:(fs0++[s.f]).length=s.chain.length+1)(hd3:s.chain.length+d=3)(hF:iW fs0 R0)(hn:R0.length<=3)(hx:P.E.p[k]?=H xl)(hk0:zG P.E.p k≠0)
  (h:gH B P T R0 s W L0 Ah ch Sh ⟨m,lv,hd,ex⟩ Ae ce Se L' wr) (hw:e.wf) (hxe:xl.Expr=e.flat) (hnm:zB P.E.p s.locals e.flat=M) (hm:iq P.E m) (hcnt:max m.items.length (200+iE d)+e.size<=8000) (hd0:0<=m.depth) (hd1:m.depth+e.size<=iP d+1) :
  LR prog 241 #[.pointer (H ⟨P.g,0,V⟩),F I k,F I 0] wr fun r w'=>(∃ v:Int,r=.returned (F I v))/\∃ L2,gH B P T R0 s W L0 Ah ch Sh ⟨nT P.E (fun g m=>zE P.E (zH P.E d) (fs0++[s.f]) k s g m) (fs0++[s.f]) s k xl.Expr m,lv,hd,ex⟩ Ae ce Se L2 w':=by
 have a0:iA P.E (s.wl lv):=⟨hs.od,hs.locals,hs.first,hs.chain,hs.outer⟩
 have a1:=(Lh.1 hx).1;obtain⟨a3,a2⟩:=hrep T R0 (s.wl lv) fs0 k a0 hfs hd3 hF hn a1 hk0;have hc:=zs1 hR a0 a3 a2 (hF.snoc (s.wl lv) T V 0) hn hx e.size e (Lz _) (a:=0) (rs:=[]) h.st hw (by rw[Mt,MC,hxe]) hnm hm hcnt hd0 hd1;refine hc.mono fun r w' hh=>⟨⟨_,hh.1⟩,?_⟩;obtain⟨L2,h2⟩:=h.next (lv':=lv) hh.2;refine⟨L2,?_⟩;rw[hxe,uS hw,<-Ex.ky P.E _ _ s lv];exact h2
end Go.Proofs.YtiihkapmggfjkaaGreat
