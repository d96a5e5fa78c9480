/-
  PART.
-/
import Derived.Test.YthgbglbaemelhaaGreatM15LawThreadsApart
set_option linter.unusedVariables false
set_option linter.unusedSimpArgs false
set_option maxRecDepth 100000
set_option maxHeartbeats 8000000
namespace Go.Proofs.YthgbglbaemelhaaGreat
open Value renaming slice->G,int->J,bool->H,string->V
open IntKind renaming i64->Z,wrap->Rg
open Option renaming none->C,some->D
open Obj renaming cells->F
open Bool renaming false->I,true->M
open Go renaming World->U,results->Rv,Calls->RD,Addr->RJ,TypeId->R5,yielded->Th
open World renaming cell?->Rb,frozen?->Rx,alloc->Su
open List renaming length_cons->RA,length_nil->RR,take_succ_cons->RZ,take_zero->SH
open RowKit renaming intOf->RS
open _root_.Nat renaming add_zero->Sr
open Ending renaming returned->Tq
open Region renaming wanted->RV,ready->Sn,noSelect->TZ,Mode->Ub,free->Wu
open Tryz
open Go.RowKit
variable {Ae Ah:X RJ}{B:Q (Nat × Obj)}{L' L0 Se Sh:Q Nat}{P:jt}{R0:Q (Q Value)}{T:iM}{W w2 wr:U}{ce ch d k:Nat}{hd lv:Q Int}{line:Int}{m:fT}{s:fH}{xl:fw}
theorem C6:∀(l:Q fw)(i:Nat),∀ x∈lu l i,(i:Int)<=x
 | [],_,x,h=>by cases h
 | y::r,i,x,h=>by
  unfold lu at h;split at h
  ·rcases RO.1 h with rfl | h
   ·exact Tz _
   ·have:=C6 r (i+1) x h;omega
  ·have:=C6 r (i+1) x h;omega
theorem Fe:∀(l:Q fw)(i g:Nat),((lu l i).filter fun k=>decide (k<((i+g:Nat):Int))).length=((l.take g).filter fun x=>decide (x.li=0)).length
 | [],_,g=>by simp[lu]
 | y::r,i,0=>by
  simp only[SH,List.filter_nil,RR,TH,UJ,RC];intro a ha;have:=C6 _ _ a ha;omega
 | y::r,i,g+1=>by
  have ih:=Fe r (i+1) g;rw[show i+1+g=i+(g+1) from K9] at ih;unfold lu;by_cases h:y.li=0
  ·rw[Rs h,RZ,TC,TC,Rs (by simp;omega),Rs (by simpa using h),RA,RA,ih]
  ·rw[Ro h,RZ,TC,Ro (by simpa using h),ih]
theorem J2 (p:Q fw)(g:Nat):tg p (g:Int)=(((p.take g).filter fun x=>decide (x.li=0)).length:Int):=by
 unfold tg zq;have h:=Fe p 0 g;rw[RF] at h;rw[h]
theorem Dn:∀(l:Q N)(v:N)(i:Nat),lV l v i=qV l v i
 | [],_,_=>rfl
 | y::r,v,i=>by
  unfold lV qV;by_cases h:v=y
  ·rw[Rs h,Rs h.symm]
  ·rw[Ro h,Ro (fun e=>h e.symm),Dn r]
def Jr (P:jt)(T:iM)(R0:Q (Q Value))(s:fH)(rep:Int->fT->fT)(fs:Q Int)(k d:Nat):Prop:=∀(m:fT)(W:U)(L:Q Nat)(g:Int)(A2:X RJ)(n2 c2:Nat),nN P T m R0 s W L->iC P.E m->m.pi.length<200->WC P.E.p g->mZ P.E fs m g=M->((iK P.E.p g).length:Int)<=m.jp->m.jp<=jS d->
 RD prog 219 #[.pointer (D ⟨P.g,0,C⟩),J Z g,J Z k,.agg #[J Z s.f,G T.Ac s.io.length T.cc,G T.Al s.un.length T.cl,J Z s.first,H s.UV,G A2 n2 c2]] W fun r W'=>r=.returned (.tuple #[])/\gg P T (rep g m) R0 s W L W'
theorem zxi {rep:Int->fT->fT} {fs:Q Int} (hR:qA P)(hs:iv P.E s)(hrW:Jr P T R0 s rep fs k d)(hrO:tJ P.E rep fs d)(hF:iU fs (R0++[j7 s T C 0]))(hn:R0.length<=3)(hx:P.E.p[k]?=D xl) :
  ∀(n:Nat) (e:Ex),e.size<=n->∀{a:Nat} {rs:Q gB} {m:fT} {W:U} {L:Q Nat},nN P T m R0 s W L->e.wf->xl.Expr.drop a=e.flat++rs->kG P.E.p s.un e.flat=M->iC P.E m->max m.pi.length (200+iQ d)+e.size<=8000->0<=m.jp->m.jp+e.size<=jS d+1->
  RD prog 213 #[.pointer (D ⟨P.g,0,C⟩),J Z k,J Z a] W fun r W'=>r=.returned (J Z ((a+e.size:Nat):Int))/\gg P T (e.comp P.E rep fs s k m) R0 s W L W':=by
 intro n;induction n with
 | zero=>intro e he;have:=e.size_pos;omega
 | succ n ih=>
 intro e he a rs m W L h hw hd aG hm ac d1 b2
 match e,he,hw,hd,aG,ac,b2 with
 | .node t ks,he,hw,hd,aG,ac,b2=>
 obtain⟨Av,cv,Sv,Lm,hB,rfl⟩:=h;have cn:=(Rd.1 hx).1;have cp:=hR.env.pc.len;have bH:=(hR.hs xl (Rt hx)).2;obtain⟨gs,cs,ba,s0,s1,s2,s3,s4,s5,sl,sn,sf,sL⟩:=hB.row;have cf:=hB.st.iX.2.2.2.2;have cV:=hB.st.iX.2.1;obtain⟨zf,zl⟩:=hB.st.fz;have dc:Rg Z ((R0.length:Int)+1-1)=(R0.length:Int):=by rw[TB];exact iw
 have dd:Rg Z (R0.length:Int)=(R0.length:Int):=iw;have ct:(R0.length:Int)<(R0.length:Int)+1:=K9;obtain⟨Ai,ci,Si,As,cS,Ss,hM,bY⟩:=id hB.st;have bL:=fh hM.box;clear hM bY;go_enter func213,ntmps213;go_upto_region 1 with(fail);go_cut [7] from 7 to 24 (fun v wx=>∃ g7,v=.pointer (D ⟨g7,0,C⟩)/\fu W wx/\wx.heap[g7]?=D (F #[J Z s.f,G T.Ac s.io.length T.cc,G T.Al s.un.length T.cl,J Z s.first,H s.UV,G Av s.ut.length cv] 253 (0,0))/\W.heap.size<=g7)
 case first=>
  refine zX (fun w'=>Rb w' ⟨P.g,11,C⟩=D (G (D ⟨gs,0,C⟩) (R0.length+1) cs)/\Rb w' ⟨gs,R0.length*6,C⟩=D (J Z s.f)/\Rb w' ⟨gs,R0.length*6+1,C⟩=D (G T.Ac s.io.length T.cc)/\Rb w' ⟨gs,R0.length*6+2,C⟩=D (G T.Al s.un.length T.cl)/\Rb w' ⟨gs,R0.length*6+3,C⟩=D (J Z s.first)/\Rb w' ⟨gs,R0.length*6+4,C⟩=D (H s.UV)/\Rb w' ⟨gs,R0.length*6+5,C⟩=D (G Av s.ut.length cv)) 13 Fs ⟨zc ba,zc s0,zc s1,zc s2,zc s3,zc s4,zc s5⟩ (fun hH=>?_);have HJ:=J3.start (T:=zr) (Q5:=zr) (e:=3) (f:=3) bL.out;have HJ:=HJ.fy ((fu.refl _).drew);generalize hYd:W.drew=Wx at HJ hH |-;clear hYd;refine .tq 0 [13] hH ?_;refine .tq 1 [13] hH ?_;refine .tq 2 [13] hH ?_;refine .tq 3 [13] hH ?_;refine .tq 4 [13] hH ?_;refine .tq 5 [13] hH ?_;refine .tq 6 [13] hH ?_;refine .tq 7 [13] hH ?_;refine .tq 8 [13] hH ?_;refine .tq 9 [13] hH ?_;refine .tq 10 [13] hH ?_;refine .tq 11 [13] hH ?_;refine fA.gL (i:=12) Fs rfl (fun K hK=>?_)
  ·go_simp
   have bx:=HJ.hg.size;have HJ:=HJ.kp (cs:=#[J Z 0,G C 0 0,G C 0 0,J Z 0,H I,G C 0 0]) (t:=253);refine hK.out _ _ ⟨HJ.cell ba,HJ.cell s0,HJ.cell s1,HJ.cell s2,HJ.cell s3,HJ.cell s4,HJ.cell s5⟩ ?_;clear hK;generalize Su _ (F #[J Z 0,G C 0 0,G C 0 0,J Z 0,H I,G C 0 0] 253)=Wx at HJ |-
   try simp only[lay]
   obtain⟨o0,o1,o2,o3,o4,o5,of,ol⟩:=mU HJ.ho;refine fA.last Fs rfl Fs (fun K hK=>?_);go_simp;refine hK.out _ _ ?_;clear hK
   try simp only[lay]
   have h2:=Jy HJ.ho (J Z s.f) (G T.Ac s.io.length T.cc) (G T.Al s.un.length T.cl) (J Z s.first) (H s.UV) (G Av s.ut.length cv);have HJ:=HJ.store h2.2 h2.1 bx;go_wp2_with(fail);go_meet;exact⟨_,rfl,HJ.hg,HJ.ho,bx⟩
 case rest=>
  obtain⟨g7,rfl,ag,bo,d8⟩:=hcut;clear ba s0 s1 s2 s3 s4 s5 sf zf zl;have aD:=hB.fy ag;obtain⟨z0,z1,z2,z5,z6,z7,z8,z9,aa,zf,zl⟩:=aD.st.ir;obtain⟨gp,op,x',cK,cQ,cL,cR,aV,cd,b8,p0,p1,p2,p3,_,_,_,h3⟩:=lS (hR.up aD.st.iX.2.2.2.2) cn;obtain rfl:x'=xl:=by rw[hx] at b8;injection b8 with h;exact h.symm
  obtain⟨b4,bu⟩:=xp (show x'.Expr.drop a=t::(ks.flat++rs) from hd);have c1:a<x'.Expr.length:=(Rd.1 b4).1;obtain⟨gt,ot,t',aQ,cg,b7,k0,k1,k2,bk,bn,bs⟩:=ue h3 c1;obtain rfl:t'=t:=by rw[b4] at b7;injection b7 with h;exact h.symm
  subst aQ;rw[aV] at z0;have cP:=fh aV;have cX:(a:Int)<(x'.Expr.length:Int):=K9;have d6:(k:Int)<(P.E.p.length:Int):=K9;have de:Rg Z ((a:Int)+1)=(a:Int)+1:=iw;have HB:=fh hB;have bK:=fh aD;have HX:=fh hx;have bJ:=fh bo;have cY:=Bd hw.1;have aK:Hid (jo t'=(ks.len:Int)):=fh hw.2.1;have HW:=fh hw;clear hx b8 b7 b4 hd aV hB aD bo;go_wp2_with(first | (go_at_call 207;(with_reducible refine(znE (t:=t') bs).mono ?_);rw[aK.out];rintro e w1 ⟨rfl,a1⟩));have ab:fu wc w1:=fu.trans (b:=_) gF a1;have az:Hid (w1.heap[wc.heap.size]?=D (F #[J Z t'.li,J Z t'.gZ,V t'.pu] 160 (0,0))):=fh (zj (Re wc _) (fu.trans (b:=_) gF a1));obtain⟨g8,b5⟩:∃ g8,wc.heap.size=g8:=⟨_,rfl⟩
  rw[b5] at az |-;have c6:W.heap.size<=g8:=by have:=ag.size;omega
  have cO:=fh b5;have al:=fh (zj bJ.out ab);have bi:∀ b∈Lm++Sv,b<W.heap.size:=fun b hb=>(Rr.1 hb).elim (HB.out.st.iX.2.2.1 b) (HB.out.ut.lt b);have au:g7∉Lm++Sv:=fun hm=>by have:=bi _ hm;omega
  have ah:g8∉Lm++Sv:=fun hm=>by have:=bi _ hm;omega
  have cw:g8≠P.g:=K9;have cu:g7≠P.g:=K9;have bT:=fh (gg.refl (⟨Av,cv,Sv,Lm,bK.out.fy ab,rfl⟩:nN P T m R0 s w1 (Lm++Sv)));have co:ks.size<=n:=by simp only[Ex.size] at he;omega
  have bb:=fh bu
  have av:lr P.E.p s.un t'=M/\kG P.E.p s.un ks.flat=M:=by
   have h9:=aG;simp only[Ex.flat,kG,List.all_cons,Rq] at h9;exact h9
  have aM:=fh av;have bA:=ks.kr;simp only[Ex.size] at ac b2 he;have c2:jS d<=900:=by unfold jS;omega
  have br:iQ d<=8000:=K9
  have cZ:a+1+ks.size<=x'.Expr.length:=by
   have h9:=Ta List.length bb.out;rw[Rh,ks.gj,Tt] at h9;omega
  have bR:=fh hm;clear b5 bu aG av hw z0 z1 z2 z5 z6 z7 z8 z9 aa zf zl p0 p1 p2 p3 k0 k1 k2 hm;go_loopw [2,9] (fun z2 z9 wr=>∃(nx:Nat) (qs:gu) (mq:fT),z2=J Z nx/\z9=J Z (qs.len:Int)/\nx+qs.size=a+1+ks.size/\qs.len<=ks.len/\qs.size<=ks.size/\ks.len+qs.size<=ks.size+qs.len/\Hid (x'.Expr.drop nx=qs.flat++rs)/\Hid qs.wf/\Hid (kG P.E.p s.un qs.flat=M)/\Hid (gg P T mq R0 s w1 (Lm++Sv) wr)/\Hid (qs.comp P.E rep fs s k mq=ks.comp P.E rep fs s k m)/\Hid (iC P.E mq)/\mq.jp=m.jp+(ks.len:Int)-(qs.len:Int)/\(max mq.pi.length (200+iQ d)+qs.size<=7999)) (fun _ z9 _=>(RS z9).toNat)
  case atStart=>exact⟨a+1,ks,m,Ar,rfl,rfl,Ru _,Ru _,K9,bb,fh HW.out.2.2,fh aM.out.2,bT,fh rfl,bR,K9,K9⟩
  case round=>
   obtain⟨nx,qs,mq,rfl,rfl,aH,bE,bF,bB,hD,bm,bZ,hN,hC,aU,aE,bt⟩:=hrel;cases qs with
   | cons e1 r=>
    simp only[gu.size,gu.len] at aH bE bF bB aE bt;have da:=r.kr;have d2:=e1.size_pos;obtain⟨L1,aW,a3,a8⟩:=hN.out;have ai:=bm.out.1;have ae:x'.Expr.drop nx=e1.flat++(r.flat++rs):=by have h9:=hD.out;simpa only[gu.flat,RU] using h9
    have a7:kG P.E.p s.un e1.flat=M/\kG P.E.p s.un r.flat=M:=by
     have h9:=bZ.out;simp only[gu.flat,kG,Um,Rq] at h9;exact h9
    have cz:(((r.len+1:Nat)):Int) > 0:=K9;have bD:(0:Int)<((r.len:Int)+1):=K9;have df:Rg Z ((r.len:Int)+1-1)=(r.len:Int):=by rw[TB];exact iw
    have cG:Rg Z (r.len:Int)=(r.len:Int):=iw;have aw:=Ex.iJ hR.env hs hrO (k:=(k:Int)) ⟨K9,K9⟩ e1 mq ai a7.1 aU.out K9 K9;have h7:=aw.cnt;have h8:=aw.jp;have h9:=aw.gO;have bU:=fh aw;have a4:=ih e1 K9 aW ai ae a7.1 aU.out K9 K9 K9;have bO:Hid (x'.Expr.drop (nx+e1.size)=r.flat++rs):=fh (by rw[<-Uf,ae,<-e1.gj,UH]);have bM:Hid (r.comp P.E rep fs s k (e1.comp P.E rep fs s k mq)=ks.comp P.E rep fs s k m):=fh (by rw[<-hC.out];rfl);have aN:=fh a7.2;have aO:=fh bm.out.2;clear aw ae a7 ai;simp only[gu.len];go_wp2_with(first | (go_at_call 213;(with_reducible refine a4.mono ?_);rintro e w2 ⟨rfl,h2⟩));go_roundw;exact⟨nx+e1.size,r,_,Ar,Ar,K9,K9,K9,K9,bO,aO,aN,fh (gg.trans a3 a8 h2),bM,fh bU.out.ok,K9,K9⟩;exact gM
   | nil=>
    simp only[gu.size,gu.len,Sr] at aH bE bF bB aE bt;have HK:Hid (mq=ks.comp P.E rep fs s k m):=fh hC.out;obtain⟨L1,aW,a3,a8⟩:=hN.out;obtain⟨ay,aB,bg,aP,a2,rfl⟩:=aW;obtain⟨o0,o1,o2,o3,o4,o5,of,ol⟩:=mU (qe a3 au al.out);obtain⟨k0,k1,k2,kf,kl⟩:=iS (qe a3 ah az.out);obtain⟨z0,z1,z2,z5,z6,z7,z8,z9,aa,zf,zl⟩:=a2.st.ir;have bq:=a2.io.read;have c3:=hs.io.1;have aI:s.io.length<=1000:=K9;have ak:mq.pi.length<=100000:=K9;have aF:fE (k:Int):=⟨K9,K9⟩
    have bp : -1000000<=mq.jp/\mq.jp<=1000000:=⟨K9,K9⟩
    have bv:fE mq.jp:=⟨K9,K9⟩
    have d9:¬ ((0:Int) > 0):=K9;have bc:=fh aE;have c4:0<=mq.jp/\mq.jp<=1000:=⟨K9,K9⟩
    have an:=fh aH;clear aE aH;simp only[gu.len];by_cases q0:t'.li=0
    ·have r0:(t'.li == 0)=M:=RQ.2 q0
     have HQ:Hid ((Ex.node t' ks).comp P.E rep fs s k m=mg P.E mq t'.gZ k s.io):=fh (by rw[HK.out];show oJ _ _ _ _ _ _ _=_;unfold oJ;rw[Rs q0]);clear q0;go_wp2_with(first | (go_at_call 211;(with_reducible refine(zlA a2.st bq aI ak bn bp aF).mono ?_);rintro e w3 ⟨rfl,h3⟩;have am:=fh (a2.next h3)));exact Rj (v:=J Z (nx:Int)) (by simp[Rv,results213,go_sem]) rfl ⟨Ta (fun z=>Tq (J Z z)) (by have h9:=an.out;simp only[Ex.size];omega),by rw[HQ.out];exact gg.from ag (gg.from ab (gg.trans a3 a8 am.out))⟩
    by_cases q1:t'.li=1
    ·have r0:(t'.li == 0)=I:=Rm.2 q0
     have r1:(t'.li == 1)=M:=RQ.2 q1
     have bz:jG s.un t'.pu=M:=by
      have h9:=aM.out.1;unfold lr at h9;rwa [Rs q1] at h9
     have cj:=yD s.un t'.pu 0 bz;obtain⟨ix,a6⟩:∃ v,qV s.un t'.pu 0=v:=⟨_,rfl⟩
     rw[a6] at cj;have bS:Hid (lV s.un t'.pu 0=ix):=fh (by rw[Dn,a6]);have HQ:Hid ((Ex.node t' ks).comp P.E rep fs s k m=BH P.E mq s ix k):=fh (by rw[HK.out];show oJ _ _ _ _ _ _ _=_;unfold oJ;rw[Ro q0,Rs q1,a6]);have cr:=hs.un.2;have cq:s.un.length<=8796093022208:=K9;have ch:0<=ix/\ix<=100:=⟨K9,K9⟩
     have d3:=hs.first;have c5 : -1000<=s.first/\s.first<=1000:=⟨K9,K9⟩
     have cW:=hR.env.args;have c0:0<=P.E.args/\P.E.args<=100:=⟨K9,K9⟩
     have bX:=a2.un.read;clear q0 q1 bz a6;go_upto_region 14 with(fail);clear z0 z1 z2 z5 z6 z7 z8 z9 aa k0 k1;refine zX (fun w'=>Rb w' ⟨g7,0,C⟩=D (J Z s.f)/\Rb w' ⟨g7,1,C⟩=D (G T.Ac s.io.length T.cc)/\Rb w' ⟨g7,2,C⟩=D (G T.Al s.un.length T.cl)/\Rb w' ⟨g7,3,C⟩=D (J Z s.first)/\Rb w' ⟨g7,4,C⟩=D (H s.UV)/\Rb w' ⟨g7,5,C⟩=D (G Av s.ut.length cv)/\Rb w' ⟨g8,2,C⟩=D (V t'.pu)) 8 Fs (Rf (zc o0) (Rf (zc o1) (Rf (zc o2) (Rf (zc o3) (Rf (zc o4) (Rf (zc o5) (zc k2))))))) (fun hH=>?_);have ad:fu wr wr.drew:=(fu.refl _).drew;clear o0 o1 o2 o3 o4 o5 k2;generalize wr.drew=wx at ad hH |-;obtain⟨o0,o1,o2,o3,o4,o5,k2⟩:=id hH;refine .tk 0 [8] hH ?_;refine .tk 1 [8] hH ?_;refine .tk 2 [3,6,8] hH ?_;refine .tk 3 [6,8] hH ?_;refine .tk 4 [5,6,8] hH ?_;refine .tk 5 [6,8] hH ?_;refine .tk 7 [8] hH ?_;refine fA.one (i:=6) Fs rfl (fun K hK=>?_);go_simp;go_at_call 193;(with_reducible refine(zfv (xs:=s.un) (Ty.up _ bX ad) cq).mono ?_);rw[bS.out];rintro e v1 ⟨rfl,a1⟩;have a0:=ad.trans a1;have o0:=za a1 o0;have o1:=za a1 o1;have o2:=za a1 o2;have o3:=za a1 o3;have o4:=za a1 o4;have o5:=za a1 o5;have k2:=za a1 k2;refine hK.out _ _ (Rf o0 (Rf o1 (Rf o2 (Rf o3 (Rf o4 (Rf o5 k2)))))) (fun hI=>?_);clear hK hH;have hH:=hI
     try simp only[lay]
     refine fA.last Fs rfl Fs (fun K hK=>?_);go_simp;go_at_call 217;(with_reducible refine(zxm (a2.fy a0).st (a2.fy a0).io.read aI ak ch bp c5 c0 aF).mono ?_);rintro e w3 ⟨rfl,h3⟩;have am:=fh ((a2.fy a0).next h3);refine hK.out _ _ ?_;clear hK
     try simp only[lay]
     go_wp2_with(fail);exact Rj (v:=J Z (nx:Int)) (by simp[Rv,results213,go_sem]) rfl ⟨Ta (fun z=>Tq (J Z z)) (by have h9:=an.out;simp only[Ex.size];omega),by rw[HQ.out];exact gg.from ag (gg.from ab (gg.trans a3 a8 (gg.from a0 am.out)))⟩
    by_cases q7:t'.li=7
    ·have r0:(t'.li == 0)=I:=Rm.2 q0
     have r1:(t'.li == 1)=I:=Rm.2 q1;have r7:(t'.li == 7)=M:=RQ.2 q7;obtain⟨gi,xg,b3,aJ,ax,b9⟩:=BV aM.out.1 q7;have c8:=(Rd.1 aJ).1;have bP:=fh b3;have db:=Gz HW.out.1 q7;have c7:WC P.E.p (gi:Int):=⟨gi,rfl,xg,aJ,ax⟩
     have bQ:Hid ((iK P.E.p (gi:Int)).length=ks.len):=fh (by have h8:=aK.out;rw[Ap HW.out.1 q7] at h8;rw[wh aJ];omega);have bj:t'.gZ=(ks.len:Int):=by have h8:=aK.out;rw[Ap HW.out.1 q7] at h8;exact h8
     have be:Hid ((Ex.node t' ks).comp P.E rep fs s k m=if mZ P.E fs mq (gi:Int)=M then rep (gi:Int) mq else (zI P.E mq 12 (tg P.E.p (gi:Int)) k s.io).gw (mq.jp-t'.gZ+1)):=fh (by rw[HK.out];show oJ _ _ _ _ _ _ _=_;unfold oJ;rw[Ro q0,Ro q1,Rs q7,b3])
     have bh:iU fs (R0++[j7 s T ay aB]):=by
      unfold iU at hF |-;rw[<-hF];simp[j7]
     have bC:0<(R0++[j7 s T ay aB]).length/\(R0++[j7 s T ay aB]).length<=100:=⟨II,by simp;omega⟩
     have bw:0<=(gi:Int)/\(gi:Int)<=1000:=⟨K9,K9⟩
     have cA:=hR.up a2.st.iX.2.2.2.2;have cy:=hR.hl;obtain⟨b,hb⟩:∃ b,mZ P.E fs mq (gi:Int)=b:=⟨_,rfl⟩
     have aj:=fh hb;have aA:=fh bj;clear q0 q1 q7 b3 aJ ax b9 hb bj;go_upto_region 16 with(fail);clear z1 z2 z5 z6 z7 z8 z9 aa k0;refine zX (fun w'=>Rb w' ⟨P.g,0,C⟩=D (G P.A P.E.p.length P.c)/\Rb w' ⟨g8,2,C⟩=D (V t'.pu)) 7 Fs (Rf (zc z0) (zc k2)) (fun hH=>?_);have ad:fu wr wr.drew:=(fu.refl _).drew;clear z0 k2;generalize wr.drew=wx at ad hH |-;obtain⟨z0,k2⟩:=id hH;refine .tk 0 [7] hH ?_;refine .tk 1 [7] hH ?_;refine .tk 2 [7] hH ?_;refine .tk 3 [7] hH ?_;refine .tk 4 [7] hH ?_;refine .tk 5 [7] hH ?_;refine fA.one (i:=6) Fs rfl (fun K hK=>?_);go_simp;go_at_call 159;(with_reducible refine(zc8 (Ty.up _ cA ad) cy).mono ?_);rw[bP.out];rintro e v1 ⟨rfl,a1⟩;have a0:=ad.trans a1;have z0:=za a1 z0;have k2:=za a1 k2;refine hK.out _ _ (Rf z0 k2) (fun hI=>?_);clear hK hH;have hH:=hI
     try simp only[lay]
     refine fA.last Fs rfl Fs (fun K hK=>?_);go_simp;refine hK.out _ _ ?_;clear hK
     try simp only[lay]
     have aC:=a2.fy a0;have aZ:=zj (qe a3 ah az.out) a0;have aq:=zj (qe a3 au al.out) a0;clear k1 k2 o0 o1 o2 o3 o4 o5 hH z0;cases b
     case' true=>
      go_upto_region 18 with(first | (go_at_call 218;(with_reducible refine(zlO (fs:=fs) aC.st hR bh ak bC bw).mono ?_);rw[aj.out];rintro e w5 ⟨rfl,a9⟩));have af:fu _ w5:=a9;obtain⟨o0,o1,o2,o3,o4,o5,cI,cJ⟩:=mU (zj aq a9);have a4:=hrW mq w5 (aP++bg) (gi:Int) Av s.ut.length cv ⟨ay,aB,bg,aP,aC.fy a9,rfl⟩ aU.out (wb aj.out).2.2.1 c7 aj.out (by rw[bQ.out];have h9:=bc.out;omega) (by have h9:=bc.out;omega);go_wp2_with(first | (go_at_call 219;(with_reducible refine a4.mono ?_);rintro e w6 ⟨rfl,h6⟩));exact Rj (v:=J Z (nx:Int)) (by simp[Rv,results213,go_sem]) rfl ⟨Ta (fun z=>Tq (J Z z)) (by have h9:=an.out;simp only[Ex.size];omega),by rw[be.out,aj.out,Rs rfl];exact gg.from ag (gg.from ab (gg.trans a3 a8 (gg.from a0 (gg.from af h6))))⟩
     case' false=>
      go_upto_region 21 with(first | (go_at_call 218;(with_reducible refine(zlO (fs:=fs) aC.st hR bh ak bC bw).mono ?_);rw[aj.out];rintro e w5 ⟨rfl,a9⟩));have af:fu _ w5:=a9;have aR:=aC.fy a9;have cx:=hR.up aR.st.iX.2.2.2.2;have aY:=zj aZ a9;have aX:=zj aq a9;have cH:=aR.st.ir;go_wp2_with(fail);go_loopw [11,12] (fun z11 aa wi=>∃(j c:Nat),z11=J Z c/\aa=J Z j/\j<=gi/\c<=j/\Hid (((P.E.p.take j).filter fun x=>decide (x.li=0)).length=c)/\Hid (fu w5 wi)) (fun _ aa _=>gi-(RS aa).toNat)
      case atStart=>exact⟨0,0,rfl,rfl,Rl _,Ru _,fh rfl,fh gF⟩
      case round=>
       obtain⟨j,c,rfl,rfl,d4,d0,aT,a5⟩:=hrel;by_cases hjl:j<gi
       ·have ck:(j:Int)<(gi:Int):=K9
        obtain⟨gq,oq,xj,cM,cT,cN,cU,ap,ce,bG,v0,v1,v2,v3,_⟩:=lS (Ty.up _ cx a5.out) (show j<P.E.p.length from K9);have y0:=za a5.out cH.1;rw[ap] at y0;have d5:(j:Int)<(P.E.p.length:Int):=K9;have bf:=fh bG;clear ap bG;by_cases hk0:xj.li=0
        ·have cm:(xj.li == 0)=M:=RQ.2 hk0
         have aL:Hid (((P.E.p.take (j+1)).filter fun x=>decide (x.li=0)).length=c+1):=fh (by rw[R8,bf.out,UC,Rh,aT.out];simp[hk0]);clear hk0;go_wp2_with(fail);go_roundw;exact⟨j+1,c+1,Ar,Ar,K9,K9,aL,fh (a5.out.trans gF)⟩;exact gM
        ·have cm:(xj.li == 0)=I:=Rm.2 hk0
         have aL:Hid (((P.E.p.take (j+1)).filter fun x=>decide (x.li=0)).length=c):=fh (by rw[R8,bf.out,UC,Rh,aT.out];simp[hk0]);clear hk0;go_wp2_with(fail);go_roundw;exact⟨j+1,c,Ar,Ar,K9,K9,aL,fh (a5.out.trans gF)⟩;exact gM
       ·obtain rfl:j=gi:=K9
        have ck:¬ ((j:Int)<(j:Int)):=K9;have bN:Hid (tg P.E.p (j:Int)=(c:Int)):=fh (by rw[J2,aT.out]);have aS:=aR.fy a5.out;have ar:=zj aY a5.out;have b1:=aS.io.read;have bW:fE 12:=⟨K9,K9⟩
        have b0:fE (c:Int):=⟨K9,K9⟩
        obtain⟨o0,o1,o2,o3,o4,o5,cI,cJ⟩:=mU (zj aX a5.out);obtain⟨k0,k1,k2,dg,dh⟩:=iS ar;have ca:fu w5 _:=a5.out;have cE:Rg Z (mq.jp-t'.gZ)=mq.jp-t'.gZ:=SG _ ⟨by have h9:=aA.out;omega,by have h9:=aA.out;omega⟩;have cF:Rg Z (mq.jp-t'.gZ+1)=mq.jp-t'.gZ+1:=SG _ ⟨by have h9:=aA.out;omega,by have h9:=aA.out;omega⟩;go_upto_region 27 with(first | (go_at_call 203;(with_reducible refine(ze6 aS.st b1 aI ak bW b0 aF bv).mono ?_);rintro e w6 ⟨rfl,h6⟩));have bd:=fh (aS.next h6);have y9:Rb w6 ⟨P.g,9,C⟩=D (J Z mq.jp):=h6.c9.1;obtain⟨_,bl,ao,_⟩:=h6
        have b6:g8∉aP:=fun hm=>by
         rcases a8 g8 (RH _ hm) with h | h
         ·exact ah h
         ·have h9:=(blt az.out);omega
        have bI:=(iS (qe ao b6 ar)).2.1;obtain⟨yf,yl⟩:=bl.fz;clear k0 k1 k2 o0 o1 o2 o3 o4 o5 bl ao;refine wo 11 Fs Fs (fun wy hgy=>?_);have x9:=za hgy y9;have di:=za hgy bI
        have xf:∀ j,Rx wy ⟨P.g,j,C⟩=I:=by
         obtain⟨_,h1,_,_⟩:=bd.out;obtain⟨_,_,_,_,h2,_⟩:=h1;exact((h2.fy hgy).st.fz).1
        clear y9 bI yf;simp only[RZ,SH,Sm,Sx]
        repeat still_step
        refine Tj ?_;go_wp2_with(fail);exact Rj (v:=J Z (nx:Int)) (by simp[Rv,results213,go_sem]) rfl ⟨Ta (fun z=>Tq (J Z z)) (by have h9:=an.out;simp only[Ex.size];omega),by rw[be.out,aj.out,Ro qo,bN.out];exact gg.from ag (gg.from ab (gg.trans a3 a8 (gg.from a0 (gg.from af (gg.from a5.out ((bd.out.fy hgy).num rfl (fun _ _ _ _ _ _ _ _ _=>rfl)))))))⟩
    have r0:(t'.li == 0)=I:=Rm.2 q0;have r1:(t'.li == 1)=I:=Rm.2 q1;have r7:(t'.li == 7)=I:=Rm.2 q7;have d7:=GA HW.out.1;have HQ:Hid ((Ex.node t' ks).comp P.E rep fs s k m=(zI P.E mq (5+t'.li-2) 0 k s.io).gw (mq.jp-1)):=fh (by rw[HK.out];show oJ _ _ _ _ _ _ _=_;unfold oJ;rw[Ro q0,Ro q1,Ro q7]);have cB:Rg Z (5+t'.li)=5+t'.li:=iw;have cC:Rg Z (5+t'.li-2)=5+t'.li-2:=iw;have cD:Rg Z (mq.jp-1)=mq.jp-1:=iw;have b0:fE (5+t'.li-2):=⟨K9,K9⟩
    have bV:fE 0:=⟨K9,K9⟩
    clear q0 q1 q7;go_wp2_with(first | (go_at_call 203;(with_reducible refine(ze6 a2.st bq aI ak b0 bV aF bv).mono ?_);rintro e w3 ⟨rfl,h3⟩;have am:=fh (a2.next h3);obtain⟨y9,yf,yl⟩:=h3.c9;replace y9:Rb w3 ⟨P.g,9,C⟩=D (J Z mq.jp):=y9;clear h3));exact Rj (v:=J Z (nx:Int)) (by simp[Rv,results213,go_sem]) rfl ⟨Ta (fun z=>Tq (J Z z)) (by have h9:=an.out;simp only[Ex.size];omega),by rw[HQ.out];exact gg.from ag (gg.from ab (gg.trans a3 a8 (am.out.num rfl (fun _ _ _ _ _ _ _ _ _=>rfl))))⟩
structure gA (B:Q (Nat × Obj))(P:jt)(T:iM)(R0:Q (Q Value))(s:fH)(W:U)(L0:Q Nat)(Ah:X RJ)(ch:Nat)(Sh:Q Nat)(L:jk)(Ae:X RJ)(ce:Nat)(Se L':Q Nat)(wr:U):Prop where
 st:nN P T L.m R0 (s.wl L.ut) wr L'
 on:fx L0 W wr
 nw:∀ b∈L',b∈L0∨W.heap.size<=b
 hd:Has (zr.sl 3) wr [G Ah L.fN.length ch] L.fN Sh
 ex:Has (re.sl 264) wr [G Ae L.fS.length ce] L.fS Se
 dh:∀ b∈Sh,b∉L'/\b∉Se/\W.heap.size<=b
 de:∀ b∈Se,b∉L'/\W.heap.size<=b
 kb:∀ p∈B,wr.heap[p.1]?=D p.2/\p.1∉L'/\p.1∉Sh/\p.1∉Se
section
variable {B:Q (Nat × Obj)} {P:jt} {T:iM} {R0:Q (Q Value)} {s:fH} {W:U} {L0:Q Nat} {Ah:X RJ} {ch:Nat} {Sh:Q Nat} {L:jk} {Ae:X RJ} {ce:Nat} {Se L':Q Nat} {wr:U}
theorem gA.next {m':fT} {lv':Q Int} (h:gA B P T R0 s W L0 Ah ch Sh L Ae ce Se L' wr)(k:gg P T m' R0 (s.wl lv') wr L' w2):∃ L2,gA B P T R0 s W L0 Ah ch Sh ⟨m',lv',L.fN,L.fS⟩ Ae ce Se L2 w2:=by
 obtain⟨L2,h1,h2,h3⟩:=k;have a0:=h.on.size;refine⟨L2,h1,h.on.then h2 h.nw,fun b hb=>?_,h.hd.fJ h2 (fun b hb=>(h.dh b hb).1),h.ex.fJ h2 (fun b hb=>(h.de b hb).1),fun b hb=>⟨xe (fun b hb=>(h.dh b hb).1) h.hd.lt h3 b hb,(h.dh b hb).2⟩,fun b hb=>⟨xe (fun b hb=>(h.de b hb).1) h.ex.lt h3 b hb,(h.de b hb).2⟩,fun p hp=>?_⟩
 rotate_left
 ·obtain⟨k1,k2,k3⟩:=h.kb p hp
  have hl:=(blt k1)
  exact⟨(h2.block p.1 hl k2).trans k1,fun hm=>(h3 p.1 hm).elim k2 (fun h=>K9),k3⟩
 rcases h3 b hb with hb | hb
 ·exact h.nw b hb
 ·exact .inr K9
theorem gA.fy {w2:U}(h:gA B P T R0 s W L0 Ah ch Sh L Ae ce Se L' wr)(hg:fu wr w2):gA B P T R0 s W L0 Ah ch Sh L Ae ce Se L' w2:=
 ⟨h.st.fy hg,h.on.trans (hg.only _),h.nw,h.hd.fy hg,h.ex.fy hg,h.dh,h.de,fun p hp=>⟨zj (h.kb p hp).1 hg,(h.kb p hp).2⟩⟩
theorem nN.fJ {m:fT}{S Lx:Q Nat}{w w2:U}(h:nN P T m R0 s w Lx)(ho:fx S w w2)(hS:∀ b∈S,b∉Lx/\P.Y.heap.size<=b/\b∉T.Sc/\b∉T.Sl):nN P T m R0 s w2 Lx:=by
 obtain⟨Av,cv,Sv,Lm,h,rfl⟩:=h;refine⟨Av,cv,Sv,Lm,⟨h.st.fJ ho (fun b hb=>⟨fun hm=>(hS b hb).1 (RH _ hm),(hS b hb).2.1⟩),h.io.fJ ho (fun b hb hm=>(hS b hm).2.2.1 hb),h.un.fJ ho (fun b hb hm=>(hS b hm).2.2.2 hb),h.ut.fJ ho (fun b hb hm=>(hS b hm).1 (RK _ hb)),h.dc,h.dl,h.dv,h.lv⟩,rfl⟩
theorem gA.fS {A2:X RJ} {c2:Nat} {S2:Q Nat} {xs:Q (Int × Int)} (h:gA B P T R0 s W L0 Ah ch Sh L Ae ce Se L' wr)(hY:P.Y.heap.size<=W.heap.size)(hT:(∀ b∈T.Sc,b<W.heap.size)/\∀ b∈T.Sl,b<W.heap.size)
  (hL:∀ b∈L',b<wr.heap.size) (ho:fx Se wr w2) (hH:Has (re.sl 264) w2 [G A2 xs.length c2] xs S2) (hS:∀ b∈S2,b∈Se∨wr.heap.size<=b):gA B P T R0 s W L0 Ah ch Sh ⟨L.m,L.ut,L.fN,xs⟩ A2 c2 S2 L' w2:=by
 have a1:=h.on.size;have a0:=h.hd.lt;refine⟨h.st.fJ ho (fun b hb=>⟨(h.de b hb).1,by have:=(h.de b hb).2;omega,fun hm=>by have:=(h.de b hb).2;have:=hT.1 b hm;omega,fun hm=>by have:=(h.de b hb).2;have:=hT.2 b hm;omega⟩),?_,h.nw,h.hd.fJ ho (fun b hb=>(h.dh b hb).2.1),hH,fun b hb=>⟨(h.dh b hb).1,fun hm=>?_,(h.dh b hb).2.2⟩,fun b hb=>?_,fun p hp=>?_⟩
 ·exact h.on.then ho (fun b hb=>.inr (h.de b hb).2)
 ·rcases hS b hm with h1 | h1
  ·exact(h.dh b hb).2.1 h1
  ·have:=a0 b hb;omega
 ·rcases hS b hb with h1 | h1
  ·exact h.de b h1
  ·exact⟨fun hm=>by have:=hL b hm;omega,by omega⟩
 ·obtain⟨k1,k2,k3,k4⟩:=h.kb p hp
  have hl:=(blt k1)
  exact⟨(ho.block p.1 hl k4).trans k1,k2,k3,fun hm=>(hS p.1 hm).elim k4 (fun h=>by omega)⟩
theorem gA.head (h:gA B P T R0 s W L0 Ah ch Sh L Ae ce Se L' wr)(hY:P.Y.heap.size<=W.heap.size)(hT:(∀ b∈T.Sc,b<W.heap.size)/\∀ b∈T.Sl,b<W.heap.size){k:Nat}{v:Int}(hk:L.fN[k]?=D v) :
  ∃ gh,Ah=D ⟨gh,0,C⟩/\gh<wr.heap.size/\(∀ j,Rx wr ⟨gh,j,C⟩=I)/\Rb wr ⟨gh,k,C⟩=D (J Z v)/\fE v/\gh≠P.g/\∀ u,fE u->gA B P T R0 s W L0 Ah ch Sh ⟨L.m,L.ut,L.fN.set k u,L.fS⟩ Ae ce Se L' (wr.setCell ⟨gh,k,C⟩ (J Z u)):=by
 obtain⟨gh,el,a6,rfl,a3,a4,_,_,_,hO,hf,hc,a0,_⟩:=qh h.hd.1 h.hd.2 hk;obtain⟨rfl,b1,b2,rfl⟩:=hO;have a1:=hc 0 _ rfl;rw[show k*zr.size+0=k from by show k*1+0=k;omega] at a1
 have a2:P.g∈L':=by
  obtain⟨Av,cv,Sv,Lm,h1,h2⟩:=h.st;rw[h2];exact RH _ h1.st.iX.1
 refine⟨gh,rfl,a4,hf,a1,⟨b1,b2⟩,fun e=>(h.dh gh a3).1 (e ▸ a2),fun u hu=>?_⟩;have hp:=a0 0 (J Z u) u (by decide) rfl ⟨rfl,hu.1,hu.2,rfl⟩;rw[show k*zr.size+0=k from by show k*1+0=k;omega] at hp;have a5:=hp.2;refine⟨h.st.fJ hp.2 (fun b hb=>⟨(h.dh b hb).1,by have:=(h.dh b hb).2.2;omega,fun hm=>by have:=(h.dh b hb).2.2;have:=hT.1 b hm;omega,fun hm=>by have:=(h.dh b hb).2.2;have:=hT.2 b hm;omega⟩),h.on.then hp.2 (fun b hb=>.inr (h.dh b hb).2.2),h.nw,?_,h.ex.fJ hp.2 (fun b hb hm=>(h.dh b hm).2.1 hb),h.dh,h.de,fun p hp=>⟨(a5.block p.1 (R9.1 (h.kb p hp).1).1 (h.kb p hp).2.2.1).trans (h.kb p hp).1,(h.kb p hp).2⟩⟩;rw[RP];exact⟨hp.1,h.hd.2⟩
end
theorem Ob {ex:Q (Int × Int)} {v:Int} (h:gA B P T R0 s W L0 Ah ch Sh ⟨m,lv,hd,ex⟩ Ae ce Se L' wr)(hcl:s.io.length<=1000)(hml:m.pi.length<=100000)(hv:fE v)(hdp : -1000000<=m.jp/\m.jp<=1000000)(hl:fE line) :
  RD prog 211 #[.pointer (D ⟨P.g,0,C⟩),J Z v,J Z line,G T.Ac s.io.length T.cc] wr fun r w'=>r=.returned (.tuple #[])/\∃ L2,gA B P T R0 s W L0 Ah ch Sh ⟨mg P.E m v line s.io,lv,hd,ex⟩ Ae ce Se L2 w':=by
 obtain⟨Av,cv,Sv,Lm,hB,hL⟩:=h.st;subst hL;exact(zlA (io:=s.io) hB.st hB.io.read hcl hml hv hdp hl).mono fun r w' hh=>⟨hh.1,h.next (hB.next hh.2)⟩
theorem yF {ex:Q (Int × Int)} {code arg:Int} (h:gA B P T R0 s W L0 Ah ch Sh ⟨m,lv,hd,ex⟩ Ae ce Se L' wr)(hcl:s.io.length<=1000)(hml:m.pi.length<=100000)(h0:fE code)(h1:fE arg)(h2:fE line)(h3:fE m.jp) :
  RD prog 203 #[.pointer (D ⟨P.g,0,C⟩),J Z code,J Z arg,J Z line,G T.Ac s.io.length T.cc] wr fun r w'=>r=.returned (.tuple #[])/\∃ L2,gA B P T R0 s W L0 Ah ch Sh ⟨zI P.E m code arg line s.io,lv,hd,ex⟩ Ae ce Se L2 w':=by
 obtain⟨Av,cv,Sv,Lm,hB,hL⟩:=h.st;subst hL;exact(ze6 (io:=s.io) hB.st hB.io.read hcl hml h0 h1 h2 h3).mono fun r w' hh=>⟨hh.1,h.next (hB.next hh.2)⟩
theorem IB {ex:Q (Int × Int)} {k:Int} {last:Bool} (h:gA B P T R0 s W L0 Ah ch Sh ⟨m,lv,hd,ex⟩ Ae ce Se L' wr)(he:gR P.E)(hcl:s.io.length<=1000)(hml:m.pi.length<=100000)(hlv:lv.length<=100000)(hdp : -1000000<=m.jp/\m.jp<=1000000)(hk:fE k)(hn:R0.length<=100) :
  RD prog 212 #[.pointer (D ⟨P.g,0,C⟩),J Z k,H last] wr fun r w'=>r=.returned (.tuple #[])/\∃ L2,gA B P T R0 s W L0 Ah ch Sh ⟨(kQ P.E s k last ⟨m,lv,hd,ex⟩).m,(kQ P.E s k last ⟨m,lv,hd,ex⟩).ut,hd,ex⟩ Ae ce Se L2 w':=
 (zwm (Q6:=hd) (Q9:=ex) h.st he hcl hml hlv hdp hk hn).mono fun r w' hh=>⟨hh.1,h.next hh.2⟩
theorem IM {ex:Q (Int × Int)} {tgt:Int} (h:gA B P T R0 s W L0 Ah ch Sh ⟨m,lv,hd,ex⟩ Ae ce Se L' wr)(hj:∀ e∈ex,gV m.pi e.2)(hml:m.pi.length<=100000)(hel:ex.length<=100000) :
  RD prog 210 #[.pointer (D ⟨P.g,0,C⟩),G Ae ex.length ce,J Z tgt] wr fun r w'=>r=.returned (.tuple #[])/\∃ L2,gA B P T R0 s W L0 Ah ch Sh ⟨lK m ex tgt,lv,hd,ex⟩ Ae ce Se L2 w':=by
 obtain⟨Av,cv,Sv,Lm,hB,hL⟩:=h.st;subst hL;exact(zwt (tgt:=tgt) hB.st h.ex (fun b hb hm=>(h.de b hb).1 (RH _ hm)) hj hml hel).mono fun r w' hh=>⟨hh.1,h.next (hB.next hh.2)⟩
theorem gA.xL {L:jk} (h:gA B P T R0 s W L0 Ah ch Sh L Ae ce Se L' wr):∀ b∈L',b<wr.heap.size:=by
 obtain⟨Av,cv,Sv,Lm,h1,rfl⟩:=h.st;exact fun b hb=>(Rr.1 hb).elim (h1.st.iX.2.2.1 b) (h1.ut.lt b)
theorem gA.jb {L:jk} {cs:Array Value} {t:R5} (h:gA B P T R0 s W L0 Ah ch Sh L Ae ce Se L' wr) :
  gA ((wr.heap.size,F cs t (0,0))::B) P T R0 s W L0 Ah ch Sh L Ae ce Se L' (wr.alloc (F cs t)):=by
 have hg:fu wr (wr.alloc (F cs t)):=(fu.refl _).alloc _;have h1:=h.fy hg;refine⟨h1.st,h1.on,h1.nw,h1.hd,h1.ex,h1.dh,h1.de,fun p hp=>?_⟩;rcases RO.1 hp with rfl | hp
 ·exact⟨Re _ _,fun hm=>by have:=h.xL _ hm;simp only at this;omega,fun hm=>by have:=h.hd.lt _ hm;simp only at this;omega,fun hm=>by have:=h.ex.lt _ hm;simp only at this;omega⟩
 ·exact h1.kb p hp
theorem gA.drop {B':Q (Nat × Obj)} {L:jk} (h:gA B P T R0 s W L0 Ah ch Sh L Ae ce Se L' wr)(hs:∀ p∈B',p∈B):gA B' P T R0 s W L0 Ah ch Sh L Ae ce Se L' wr:=
 ⟨h.st,h.on,h.nw,h.hd,h.ex,h.dh,h.de,fun p hp=>h.kb p (hs p hp)⟩
theorem PO (E:fX)(rep:Int->fT->fT)(fs:Q Int)(s:fH)(lv:Q Int)(k:Int)(t:gB)(m:fT):oJ E rep fs (s.wl lv) k t m=oJ E rep fs s k t m:=rfl
mutual
theorem Ex.kN (E:fX)(rep:Int->fT->fT)(fs:Q Int)(s:fH)(lv:Q Int)(k:Int):∀(e:Ex)(m:fT),e.comp E rep fs (s.wl lv) k m=e.comp E rep fs s k m
 | .node t ks,m=>by simp only[Ex.comp,gu.kN E rep fs s lv k ks,PO]
theorem gu.kN (E:fX)(rep:Int->fT->fT)(fs:Q Int)(s:fH)(lv:Q Int)(k:Int):∀(ks:gu)(m:fT),ks.comp E rep fs (s.wl lv) k m=ks.comp E rep fs s k m
 | .nil,_=>rfl
 | .cons e r,m=>by simp only[gu.comp,Ex.kN E rep fs s lv k e,gu.kN E rep fs s lv k r]
end
def Bz (P:jt)(d:Nat):Prop:=∀(T:iM)(R0:Q (Q Value))(s:fH)(fs0:Q Int)(k:Nat),iv P.E s->(fs0++[s.f]).length=s.io.length+1->s.io.length+d=3->iU fs0 R0->R0.length<=3->k<P.E.p.length->kP P.E.p k≠0->
 Jr P T R0 s (fun g m=>jQ P.E (jc P.E d) (fs0++[s.f]) k s g m) (fs0++[s.f]) k d/\tJ P.E (fun g m=>jQ P.E (jc P.E d) (fs0++[s.f]) k s g m) (fs0++[s.f]) d
theorem Lj (hE:gR P.E):Bz P 0:=by
 intro T R0 s a0 k hs a1 hd hF hn hk a2;refine⟨fun m W L g A2 n2 c2 _ _ _ _ hrep _ _=>?_,fun g m _ _ _ hrep=>?_⟩
 all_goals
  have h1:=(wb hrep).1
  have h2:=hE.inl.2
  exfalso
  omega
theorem Li (hR:qA P)(hL:By P d):Bz P (d+1):=by
 intro T R0 s a2 k hs a0 hd hF hn hk a1;refine⟨fun m W L g A2 n2 c2 h hm hc hg hrep h0 h1=>ztP hL hR h hF hs hd a0 hm hc hg hrep h0 h1 hk a1,?_⟩;exact Ef hR.env hs (CU hR.env d) a0 hd hk a1
theorem PF {ex:Q (Int × Int)} {i:Int} {Av:X RJ} {nv cv:Nat} (h:gA B P T R0 s W L0 Ah ch Sh ⟨m,lv,hd,ex⟩ Ae ce Se L' wr)(hcl:s.io.length<=1000)(hml:m.pi.length<=100000)(hi:0<=i/\i<=100)(hdp : -1000000<=m.jp/\m.jp<=1000000)(hf : -1000<=s.first/\s.first<=1000)(ha:0<=P.E.args/\P.E.args<=100)(hl:fE line) :
  RD prog 214 #[.pointer (D ⟨P.g,0,C⟩),.agg #[J Z s.f,G T.Ac s.io.length T.cc,G T.Al s.un.length T.cl,J Z s.first,H s.UV,G Av nv cv],J Z i,J Z line,G T.Ac s.io.length T.cc] wr fun r w'=>r=.returned (.tuple #[])/\∃ L2,gA B P T R0 s W L0 Ah ch Sh ⟨ni P.E m s i line s.io,lv,hd,ex⟩ Ae ce Se L2 w':=by
 obtain⟨a0,a1,Sv,Lm,hB,hL⟩:=h.st;subst hL;exact(zsu (s:=s) (io:=s.io) (Ac:=T.Ac) (cc:=T.cc) hB.st hB.io.read hcl hml hi hdp hf ha hl).mono fun r w' hh=>⟨hh.1,h.next (hB.next hh.2)⟩
theorem Qv {ex:Q (Int × Int)} {fs0:Q Int} {e:Ex} (hR:qA P)(hs:iv P.E s)(hrep:Bz P d)(hfs:(fs0++[s.f]).length=s.io.length+1)(hd3:s.io.length+d=3)(hF:iU fs0 R0)(hn:R0.length<=3)(hx:P.E.p[k]?=D xl)(hk0:kP P.E.p k≠0)
  (h:gA B P T R0 s W L0 Ah ch Sh ⟨m,lv,hd,ex⟩ Ae ce Se L' wr) (hw:e.wf) (hxe:xl.Expr=e.flat) (hnm:kG P.E.p s.un e.flat=M) (hm:iC P.E m) (hcnt:max m.pi.length (200+iQ d)+e.size<=8000) (hd0:0<=m.jp) (hd1:m.jp+e.size<=jS d+1) :
  RD prog 213 #[.pointer (D ⟨P.g,0,C⟩),J Z k,J Z 0] wr fun r w'=>(∃ v:Int,r=.returned (J Z v))/\∃ L2,gA B P T R0 s W L0 Ah ch Sh ⟨tH P.E (fun g m=>jQ P.E (jc P.E d) (fs0++[s.f]) k s g m) (fs0++[s.f]) s k xl.Expr m,lv,hd,ex⟩ Ae ce Se L2 w':=by
 have a0:iv P.E (s.wl lv):=⟨hs.rh,hs.un,hs.first,hs.io,hs.UV⟩
 have a1:=(Rd.1 hx).1;obtain⟨a3,a2⟩:=hrep T R0 (s.wl lv) fs0 k a0 hfs hd3 hF hn a1 hk0;have hc:=zxi hR a0 a3 a2 (hF.snoc (s.wl lv) T C 0) hn hx e.size e (Ru _) (a:=0) (rs:=[]) h.st hw (by rw[Sx,Tl,hxe]) hnm hm hcnt hd0 hd1;refine hc.mono fun r w' hh=>⟨⟨_,hh.1⟩,?_⟩;obtain⟨L2,h2⟩:=h.next (lv':=lv) hh.2;refine⟨L2,?_⟩;rw[hxe,AT hw,<-Ex.kN P.E _ _ s lv];exact h2
end Go.Proofs.YthgbglbaemelhaaGreat
