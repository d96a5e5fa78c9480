/-
  PART.
-/
import Derived.Test.YthgbglbaemelhaaGreatM31LawSlices
set_option linter.unusedVariables false
set_option linter.unusedSimpArgs false
set_option maxRecDepth 100000
set_option maxHeartbeats 8000000
namespace Go.Proofs.YthgbglbaemelhaaGreat
open Value renaming slice->G,int->J,bool->H,string->V
open IntKind renaming i64->C,wrap->QP
open Option renaming none->D,some->Z
open Obj renaming cells->F
open Bool renaming false->I,true->M
open Go renaming World->U,results->Rd,Calls->Rh,Addr->Ri,yielded->Su
open World renaming cell?->QL,frozen?->Rb,alloc->RR
open List renaming length_cons->Rc,length_nil->Ru,take_succ_cons->RN,take_zero->Sd
open RowKit renaming intOf->Ry
open _root_.Nat renaming add_zero->RK
open Ending renaming returned->SN
open Region renaming wanted->Rx,ready->RL,noSelect->Tn,Mode->Ts,free->Ui
open Tryz
open Go.RowKit
variable {Ae Ah:X Ri}{B:Q (Nat × Obj)}{L' L0 Se Sh:Q Nat}{P:jj}{R0:Q (Q Value)}{T:iC}{W w2 wr:U}{ce ch d k:Nat}{hd lv:Q Int}{line:Int}{m:fS}{s:fG}{xl:fv}
theorem CM:∀(l:Q fv)(i:Nat),∀ x∈lf l i,(i:Int)<=x
 | [],_,x,h=>by cases h
 | y::r,i,x,h=>by
  unfold lf at h;split at h
  ·rcases Rp.1 h with rfl | h
   ·exact SK _
   ·have:=CM r (i+1) x h;omega
  ·have:=CM r (i+1) x h;omega
theorem Fb:∀(l:Q fv)(i g:Nat),((lf l i).filter fun k=>decide (k<((i+g:Nat):Int))).length=((l.take g).filter fun x=>decide (x.Kind=0)).length
 | [],_,g=>by simp[lf]
 | y::r,i,0=>by
  simp only[Sd,List.filter_nil,Ru,Tj,Un,Rg];intro a ha;have:=CM _ _ a ha;omega
 | y::r,i,g+1=>by
  have ih:=Fb r (i+1) g;rw[show i+1+g=i+(g+1) from by omega] at ih;unfold lf;by_cases h:y.Kind=0
  ·rw[Q5 h,RN,Te,Te,Q5 (by simp;omega),Q5 (by simpa using h),Rc,Rc,ih]
  ·rw[QZ h,RN,Te,QZ (by simpa using h),ih]
theorem Jo (p:Q fv)(g:Nat):sF p (g:Int)=(((p.take g).filter fun x=>decide (x.Kind=0)).length:Int):=by
 unfold sF zp;have h:=Fb p 0 g;rw[Rk] at h;rw[h]
theorem CP:∀(l:Q N)(v:N)(i:Nat),lO l v i=qH l v i
 | [],_,_=>rfl
 | y::r,v,i=>by
  unfold lO qH;by_cases h:v=y
  ·rw[Q5 h,Q5 h.symm]
  ·rw[QZ h,QZ (fun e=>h e.symm),CP r]
def IM (P:jj)(T:iC)(R0:Q (Q Value))(s:fG)(rep:Int->fS->fS)(fs:Q Int)(k d:Nat):Prop:=∀(m:fS)(W:U)(L:Q Nat)(g:Int)(A2:X Ri)(n2 c2:Nat),nD P T m R0 s W L->iB P.E m->m.items.length<200->isFun P.E.p g->mP P.E fs m g=M->((zZ P.E.p g).length:Int)<=m.depth->m.depth<=jN d->
 Rh prog 219 #[.pointer (Z ⟨P.g,0,D⟩),J C g,J C k,.agg #[J C s.f,G T.Ac s.chain.length T.cc,G T.Al s.locals.length T.cl,J C s.first,H s.outer,G A2 n2 c2]] W fun r W'=>r=.returned (.tuple #[])/\gg P T (rep g m) R0 s W L W'
theorem zwC {rep:Int->fS->fS} {fs:Q Int} (hR:qi P)(hs:iu P.E s)(hrW:IM P T R0 s rep fs k d)(hrO:sT P.E rep fs d)(hF:iR fs (R0++[jZ s T D 0]))(hn:R0.length<=3)(hx:P.E.p[k]?=Z xl) :
  ∀(n:Nat) (e:Ex),e.size<=n->∀{a:Nat} {rs:Q gB} {m:fS} {W:U} {L:Q Nat},nD P T m R0 s W L->e.wf->xl.Expr.drop a=e.flat++rs->zQ P.E.p s.locals e.flat=M->iB P.E m->max m.items.length (200+iO d)+e.size<=8000->0<=m.depth->m.depth+e.size<=jN d+1->
  Rh prog 213 #[.pointer (Z ⟨P.g,0,D⟩),J C k,J C a] W fun r W'=>r=.returned (J C ((a+e.size:Nat):Int))/\gg P T (e.comp P.E rep fs s k m) R0 s W L W':=by
 intro n;induction n with
 | zero=>intro e he;have:=e.size_pos;omega
 | succ n ih=>
 intro e he a rs m W L h hw hd aG hm ac d1 b2
 match e,he,hw,hd,aG,ac,b2 with
 | .node t ks,he,hw,hd,aG,ac,b2=>
 obtain⟨Av,cv,Sv,Lm,hB,rfl⟩:=h;have cn:=(QM.1 hx).1;have cp:=hR.env.pc.len;have bH:=(hR.hs xl (Q9 hx)).2;obtain⟨gs,cs,ba,s0,s1,s2,s3,s4,s5,sl,sn,sf,sL⟩:=hB.row;have cf:=hB.st.iU.2.2.2.2;have cV:=hB.st.iU.2.1;obtain⟨zf,zl⟩:=hB.st.fz;have dc:QP C ((R0.length:Int)+1-1)=(R0.length:Int):=by rw[Td];exact iw
 have dd:QP C (R0.length:Int)=(R0.length:Int):=iw;have ct:(R0.length:Int)<(R0.length:Int)+1:=by omega
 obtain⟨Ai,ci,Si,As,cS,Ss,hM,bY⟩:=id hB.st;have bL:=fh hM.box;clear hM bY;go_enter func213,ntmps213;go_upto_region 1 with(fail);go_cut [7] from 7 to 24 (fun v wx=>∃ g7,v=.pointer (Z ⟨g7,0,D⟩)/\ft W wx/\wx.heap[g7]?=Z (F #[J C s.f,G T.Ac s.chain.length T.cc,G T.Al s.locals.length T.cl,J C s.first,H s.outer,G Av s.leaves.length cv] 253 (0,0))/\W.heap.size<=g7)
 case first=>
  refine jT (fun w'=>QL w' ⟨P.g,11,D⟩=Z (G (Z ⟨gs,0,D⟩) (R0.length+1) cs)/\QL w' ⟨gs,R0.length*6,D⟩=Z (J C s.f)/\QL w' ⟨gs,R0.length*6+1,D⟩=Z (G T.Ac s.chain.length T.cc)/\QL w' ⟨gs,R0.length*6+2,D⟩=Z (G T.Al s.locals.length T.cl)/\QL w' ⟨gs,R0.length*6+3,D⟩=Z (J C s.first)/\QL w' ⟨gs,R0.length*6+4,D⟩=Z (H s.outer)/\QL w' ⟨gs,R0.length*6+5,D⟩=Z (G Av s.leaves.length cv)) 13 (by kernel_rfl) ⟨zc ba,zc s0,zc s1,zc s2,zc s3,zc s4,zc s5⟩ (fun hH=>?_);have HJ:=J3.start (T:=zr) (QF:=zr) (e:=3) (f:=3) bL.out;have HJ:=HJ.fx ((ft.refl _).drew);generalize hYd:W.drew=Wx at HJ hH |-;clear hYd;refine .tq 0 [13] hH ?_;refine .tq 1 [13] hH ?_;refine .tq 2 [13] hH ?_;refine .tq 3 [13] hH ?_;refine .tq 4 [13] hH ?_;refine .tq 5 [13] hH ?_;refine .tq 6 [13] hH ?_;refine .tq 7 [13] hH ?_;refine .tq 8 [13] hH ?_;refine .tq 9 [13] hH ?_;refine .tq 10 [13] hH ?_;refine .tq 11 [13] hH ?_;refine fA.gQ (i:=12) (by kernel_rfl) rfl (fun K hK=>?_)
  ·go_simp
   have bx:=HJ.hg.size;have HJ:=HJ.kp (cs:=#[J C 0,G D 0 0,G D 0 0,J C 0,H I,G D 0 0]) (t:=253);refine hK.out _ _ ⟨HJ.cell ba,HJ.cell s0,HJ.cell s1,HJ.cell s2,HJ.cell s3,HJ.cell s4,HJ.cell s5⟩ ?_;clear hK;generalize RR _ (F #[J C 0,G D 0 0,G D 0 0,J C 0,H I,G D 0 0] 253)=Wx at HJ |-
   try simp only[lay]
   obtain⟨o0,o1,o2,o3,o4,o5,of,ol⟩:=mM HJ.ho;refine fA.last (by kernel_rfl) rfl (by kernel_rfl) (fun K hK=>?_);go_simp;refine hK.out _ _ ?_;clear hK
   try simp only[lay]
   have h2:=I0 HJ.ho (J C s.f) (G T.Ac s.chain.length T.cc) (G T.Al s.locals.length T.cl) (J C s.first) (H s.outer) (G Av s.leaves.length cv);have HJ:=HJ.store h2.2 h2.1 bx;go_wp2_with(fail);go_meet;exact⟨_,rfl,HJ.hg,HJ.ho,bx⟩
 case rest=>
  obtain⟨g7,rfl,ag,bo,d8⟩:=hcut;clear ba s0 s1 s2 s3 s4 s5 sf zf zl;have aD:=hB.fx ag;obtain⟨z0,z1,z2,z5,z6,z7,z8,z9,aa,zf,zl⟩:=aD.st.ij;obtain⟨gp,op,x',cK,cQ,cL,cR,aV,cd,b8,p0,p1,p2,p3,_,_,_,h3⟩:=lK (hR.up aD.st.iU.2.2.2.2) cn;obtain rfl:x'=xl:=by rw[hx] at b8;injection b8 with h;exact h.symm
  obtain⟨b4,bu⟩:=wO (show x'.Expr.drop a=t::(ks.flat++rs) from hd);have c1:a<x'.Expr.length:=(QM.1 b4).1;obtain⟨gt,ot,t',aQ,cg,b7,k0,k1,k2,bk,bn,bs⟩:=tG h3 c1;obtain rfl:t'=t:=by rw[b4] at b7;injection b7 with h;exact h.symm
  subst aQ;rw[aV] at z0;have cP:=fh aV;have cX:(a:Int)<(x'.Expr.length:Int):=by omega
  have d6:(k:Int)<(P.E.p.length:Int):=by omega
  have de:QP C ((a:Int)+1)=(a:Int)+1:=iw;have HB:=fh hB;have bK:=fh aD;have HX:=fh hx;have bJ:=fh bo;have cY:=Ar hw.1;have aK:Hid (jk t'=(ks.len:Int)):=fh hw.2.1;have HW:=fh hw;clear hx b8 b7 b4 hd aV hB aD bo;go_wp2_with(first | (go_at_call 207;(with_reducible refine(zno (t:=t') bs).mono ?_);rw[aK.out];rintro e w1 ⟨rfl,a1⟩));have ab:ft wc w1:=ft.trans (b:=_) gF a1;have az:Hid (w1.heap[wc.heap.size]?=Z (F #[J C t'.Kind,J C t'.gW,V t'.Name] 160 (0,0))):=fh (zj (QO wc _) (ft.trans (b:=_) gF a1));obtain⟨g8,b5⟩:∃ g8,wc.heap.size=g8:=⟨_,rfl⟩
  rw[b5] at az |-;have c6:W.heap.size<=g8:=by have:=ag.size;omega
  have cO:=fh b5;have al:=fh (zj bJ.out ab);have bi:∀ b∈Lm++Sv,b<W.heap.size:=fun b hb=>(Q7.1 hb).elim (HB.out.st.iU.2.2.1 b) (HB.out.leaves.lt b);have au:g7∉Lm++Sv:=fun hm=>by have:=bi _ hm;omega
  have ah:g8∉Lm++Sv:=fun hm=>by have:=bi _ hm;omega
  have cw:g8≠P.g:=by omega
  have cu:g7≠P.g:=by omega
  have bT:=fh (gg.refl (⟨Av,cv,Sv,Lm,bK.out.fx ab,rfl⟩:nD P T m R0 s w1 (Lm++Sv)));have co:ks.size<=n:=by simp only[Ex.size] at he;omega
  have bb:=fh bu
  have av:zP P.E.p s.locals t'=M/\zQ P.E.p s.locals ks.flat=M:=by
   have h9:=aG;simp only[Ex.flat,zQ,List.all_cons,Q4] at h9;exact h9
  have aM:=fh av;have bA:=ks.kr;simp only[Ex.size] at ac b2 he;have c2:jN d<=900:=by unfold jN;omega
  have br:iO d<=8000:=by omega
  have cZ:a+1+ks.size<=x'.Expr.length:=by
   have h9:=Sg List.length bb.out;rw[QR,ks.gj,SU] at h9;omega
  have bR:=fh hm;clear b5 bu aG av hw z0 z1 z2 z5 z6 z7 z8 z9 aa zf zl p0 p1 p2 p3 k0 k1 k2 hm;go_loopw [2,9] (fun z2 z9 wr=>∃(nx:Nat) (qs:gk) (mq:fS),z2=J C nx/\z9=J C (qs.len:Int)/\nx+qs.size=a+1+ks.size/\qs.len<=ks.len/\qs.size<=ks.size/\ks.len+qs.size<=ks.size+qs.len/\Hid (x'.Expr.drop nx=qs.flat++rs)/\Hid qs.wf/\Hid (zQ P.E.p s.locals qs.flat=M)/\Hid (gg P T mq R0 s w1 (Lm++Sv) wr)/\Hid (qs.comp P.E rep fs s k mq=ks.comp P.E rep fs s k m)/\Hid (iB P.E mq)/\mq.depth=m.depth+(ks.len:Int)-(qs.len:Int)/\(max mq.items.length (200+iO d)+qs.size<=7999)) (fun _ z9 _=>(Ry z9).toNat)
  case atStart=>exact⟨a+1,ks,m,by go_num,rfl,rfl,Q8 _,Q8 _,by omega,bb,fh HW.out.2.2,fh aM.out.2,bT,fh rfl,bR,by omega,by omega⟩
  case round=>
   obtain⟨nx,qs,mq,rfl,rfl,aH,bE,bF,bB,hD,bm,bZ,hN,hC,aU,aE,bt⟩:=hrel;cases qs with
   | cons e1 r=>
    simp only[gk.size,gk.len] at aH bE bF bB aE bt;have da:=r.kr;have d2:=e1.size_pos;obtain⟨L1,aW,a3,a8⟩:=hN.out;have ai:=bm.out.1;have ae:x'.Expr.drop nx=e1.flat++(r.flat++rs):=by have h9:=hD.out;simpa only[gk.flat,Rw] using h9
    have a7:zQ P.E.p s.locals e1.flat=M/\zQ P.E.p s.locals r.flat=M:=by
     have h9:=bZ.out;simp only[gk.flat,zQ,TQ,Q4] at h9;exact h9
    have cz:(((r.len+1:Nat)):Int) > 0:=by omega
    have bD:(0:Int)<((r.len:Int)+1):=by omega
    have df:QP C ((r.len:Int)+1-1)=(r.len:Int):=by rw[Td];exact iw
    have cG:QP C (r.len:Int)=(r.len:Int):=iw;have aw:=Ex.iI hR.env hs hrO (k:=(k:Int)) ⟨by omega,by omega⟩ e1 mq ai a7.1 aU.out (by omega) (by omega);have h7:=aw.cnt;have h8:=aw.depth;have h9:=aw.gL;have bU:=fh aw;have a4:=ih e1 (by omega) aW ai ae a7.1 aU.out (by omega) (by omega) (by omega);have bO:Hid (x'.Expr.drop (nx+e1.size)=r.flat++rs):=fh (by rw[<-TH,ae,<-e1.gj,Ul]);have bM:Hid (r.comp P.E rep fs s k (e1.comp P.E rep fs s k mq)=ks.comp P.E rep fs s k m):=fh (by rw[<-hC.out];rfl);have aN:=fh a7.2;have aO:=fh bm.out.2;clear aw ae a7 ai;simp only[gk.len];go_wp2_with(first | (go_at_call 213;(with_reducible refine a4.mono ?_);rintro e w2 ⟨rfl,h2⟩));go_roundw;exact⟨nx+e1.size,r,_,by go_num,by go_num,by omega,by omega,by omega,by omega,bO,aO,aN,fh (gg.trans a3 a8 h2),bM,fh bU.out.ok,by omega,by omega⟩;exact gH
   | nil=>
    simp only[gk.size,gk.len,RK] at aH bE bF bB aE bt;have HK:Hid (mq=ks.comp P.E rep fs s k m):=fh hC.out;obtain⟨L1,aW,a3,a8⟩:=hN.out;obtain⟨ay,aB,bg,aP,a2,rfl⟩:=aW;obtain⟨o0,o1,o2,o3,o4,o5,of,ol⟩:=mM (pR a3 au al.out);obtain⟨k0,k1,k2,kf,kl⟩:=jc (pR a3 ah az.out);obtain⟨z0,z1,z2,z5,z6,z7,z8,z9,aa,zf,zl⟩:=a2.st.ij;have bq:=a2.chain.read;have c3:=hs.chain.1;have aI:s.chain.length<=1000:=by omega
    have ak:mq.items.length<=100000:=by omega
    have aF:fD (k:Int):=⟨by omega,by omega⟩
    have bp : -1000000<=mq.depth/\mq.depth<=1000000:=⟨by omega,by omega⟩
    have bv:fD mq.depth:=⟨by omega,by omega⟩
    have d9:¬ ((0:Int) > 0):=by omega
    have bc:=fh aE;have c4:0<=mq.depth/\mq.depth<=1000:=⟨by omega,by omega⟩
    have an:=fh aH;clear aE aH;simp only[gk.len];by_cases q0:t'.Kind=0
    ·have r0:(t'.Kind == 0)=M:=Rt.2 q0
     have HQ:Hid ((Ex.node t' ks).comp P.E rep fs s k m=lZ P.E mq t'.gW k s.chain):=fh (by rw[HK.out];show oz _ _ _ _ _ _ _=_;unfold oz;rw[Q5 q0]);clear q0;go_wp2_with(first | (go_at_call 211;(with_reducible refine(zlg a2.st bq aI ak bn bp aF).mono ?_);rintro e w3 ⟨rfl,h3⟩;have am:=fh (a2.next h3)));exact QU (v:=J C (nx:Int)) (by simp[Rd,results213,go_sem]) rfl ⟨Sg (fun z=>SN (J C z)) (by have h9:=an.out;simp only[Ex.size];omega),by rw[HQ.out];exact gg.from ag (gg.from ab (gg.trans a3 a8 am.out))⟩
    by_cases q1:t'.Kind=1
    ·have r0:(t'.Kind == 0)=I:=QV.2 q0
     have r1:(t'.Kind == 1)=M:=Rt.2 q1
     have bz:jA s.locals t'.Name=M:=by
      have h9:=aM.out.1;unfold zP at h9;rwa [Q5 q1] at h9
     have cj:=yh s.locals t'.Name 0 bz;obtain⟨ix,a6⟩:∃ v,qH s.locals t'.Name 0=v:=⟨_,rfl⟩
     rw[a6] at cj;have bS:Hid (lO s.locals t'.Name 0=ix):=fh (by rw[CP,a6]);have HQ:Hid ((Ex.node t' ks).comp P.E rep fs s k m=Bj P.E mq s ix k):=fh (by rw[HK.out];show oz _ _ _ _ _ _ _=_;unfold oz;rw[QZ q0,Q5 q1,a6]);have cr:=hs.locals.2;have cq:s.locals.length<=8796093022208:=by omega
     have ch:0<=ix/\ix<=100:=⟨by omega,by omega⟩
     have d3:=hs.first;have c5 : -1000<=s.first/\s.first<=1000:=⟨by omega,by omega⟩
     have cW:=hR.env.args;have c0:0<=P.E.args/\P.E.args<=100:=⟨by omega,by omega⟩
     have bX:=a2.locals.read;clear q0 q1 bz a6;go_upto_region 14 with(fail);clear z0 z1 z2 z5 z6 z7 z8 z9 aa k0 k1;refine jT (fun w'=>QL w' ⟨g7,0,D⟩=Z (J C s.f)/\QL w' ⟨g7,1,D⟩=Z (G T.Ac s.chain.length T.cc)/\QL w' ⟨g7,2,D⟩=Z (G T.Al s.locals.length T.cl)/\QL w' ⟨g7,3,D⟩=Z (J C s.first)/\QL w' ⟨g7,4,D⟩=Z (H s.outer)/\QL w' ⟨g7,5,D⟩=Z (G Av s.leaves.length cv)/\QL w' ⟨g8,2,D⟩=Z (V t'.Name)) 8 (by kernel_rfl) (QQ (zc o0) (QQ (zc o1) (QQ (zc o2) (QQ (zc o3) (QQ (zc o4) (QQ (zc o5) (zc k2))))))) (fun hH=>?_);have ad:ft wr wr.drew:=(ft.refl _).drew;clear o0 o1 o2 o3 o4 o5 k2;generalize wr.drew=wx at ad hH |-;obtain⟨o0,o1,o2,o3,o4,o5,k2⟩:=id hH;refine .tk 0 [8] hH ?_;refine .tk 1 [8] hH ?_;refine .tk 2 [3,6,8] hH ?_;refine .tk 3 [6,8] hH ?_;refine .tk 4 [5,6,8] hH ?_;refine .tk 5 [6,8] hH ?_;refine .tk 7 [8] hH ?_;refine fA.one (i:=6) (by kernel_rfl) rfl (fun K hK=>?_);go_simp;go_at_call 193;(with_reducible refine(zfh (xs:=s.locals) (Ty.up _ bX ad) cq).mono ?_);rw[bS.out];rintro e v1 ⟨rfl,a1⟩;have a0:=ad.trans a1;have o0:=za a1 o0;have o1:=za a1 o1;have o2:=za a1 o2;have o3:=za a1 o3;have o4:=za a1 o4;have o5:=za a1 o5;have k2:=za a1 k2;refine hK.out _ _ (QQ o0 (QQ o1 (QQ o2 (QQ o3 (QQ o4 (QQ o5 k2)))))) (fun hI=>?_);clear hK hH;have hH:=hI
     try simp only[lay]
     refine fA.last (by kernel_rfl) rfl (by kernel_rfl) (fun K hK=>?_);go_simp;go_at_call 217;(with_reducible refine(zwG (a2.fx a0).st (a2.fx a0).chain.read aI ak ch bp c5 c0 aF).mono ?_);rintro e w3 ⟨rfl,h3⟩;have am:=fh ((a2.fx a0).next h3);refine hK.out _ _ ?_;clear hK
     try simp only[lay]
     go_wp2_with(fail);exact QU (v:=J C (nx:Int)) (by simp[Rd,results213,go_sem]) rfl ⟨Sg (fun z=>SN (J C z)) (by have h9:=an.out;simp only[Ex.size];omega),by rw[HQ.out];exact gg.from ag (gg.from ab (gg.trans a3 a8 (gg.from a0 am.out)))⟩
    by_cases q7:t'.Kind=7
    ·have r0:(t'.Kind == 0)=I:=QV.2 q0
     have r1:(t'.Kind == 1)=I:=QV.2 q1;have r7:(t'.Kind == 7)=M:=Rt.2 q7;obtain⟨gi,xg,b3,aJ,ax,b9⟩:=Bx aM.out.1 q7;have c8:=(QM.1 aJ).1;have bP:=fh b3;have db:=Fw HW.out.1 q7;have c7:isFun P.E.p (gi:Int):=⟨gi,rfl,xg,aJ,ax⟩
     have bQ:Hid ((zZ P.E.p (gi:Int)).length=ks.len):=fh (by have h8:=aK.out;rw[yK HW.out.1 q7] at h8;rw[vG aJ];omega);have bj:t'.gW=(ks.len:Int):=by have h8:=aK.out;rw[yK HW.out.1 q7] at h8;exact h8
     have be:Hid ((Ex.node t' ks).comp P.E rep fs s k m=if mP P.E fs mq (gi:Int)=M then rep (gi:Int) mq else (zB P.E mq 12 (sF P.E.p (gi:Int)) k s.chain).gw (mq.depth-t'.gW+1)):=fh (by rw[HK.out];show oz _ _ _ _ _ _ _=_;unfold oz;rw[QZ q0,QZ q1,Q5 q7,b3])
     have bh:iR fs (R0++[jZ s T ay aB]):=by
      unfold iR at hF |-;rw[<-hF];simp[jZ]
     have bC:0<(R0++[jZ s T ay aB]).length/\(R0++[jZ s T ay aB]).length<=100:=⟨by simp,by simp;omega⟩
     have bw:0<=(gi:Int)/\(gi:Int)<=1000:=⟨by omega,by omega⟩
     have cA:=hR.up a2.st.iU.2.2.2.2;have cy:=hR.hl;obtain⟨b,hb⟩:∃ b,mP P.E fs mq (gi:Int)=b:=⟨_,rfl⟩
     have aj:=fh hb;have aA:=fh bj;clear q0 q1 q7 b3 aJ ax b9 hb bj;go_upto_region 16 with(fail);clear z1 z2 z5 z6 z7 z8 z9 aa k0;refine jT (fun w'=>QL w' ⟨P.g,0,D⟩=Z (G P.A P.E.p.length P.c)/\QL w' ⟨g8,2,D⟩=Z (V t'.Name)) 7 (by kernel_rfl) (QQ (zc z0) (zc k2)) (fun hH=>?_);have ad:ft wr wr.drew:=(ft.refl _).drew;clear z0 k2;generalize wr.drew=wx at ad hH |-;obtain⟨z0,k2⟩:=id hH;refine .tk 0 [7] hH ?_;refine .tk 1 [7] hH ?_;refine .tk 2 [7] hH ?_;refine .tk 3 [7] hH ?_;refine .tk 4 [7] hH ?_;refine .tk 5 [7] hH ?_;refine fA.one (i:=6) (by kernel_rfl) rfl (fun K hK=>?_);go_simp;go_at_call 159;(with_reducible refine(zcY (Ty.up _ cA ad) cy).mono ?_);rw[bP.out];rintro e v1 ⟨rfl,a1⟩;have a0:=ad.trans a1;have z0:=za a1 z0;have k2:=za a1 k2;refine hK.out _ _ (QQ z0 k2) (fun hI=>?_);clear hK hH;have hH:=hI
     try simp only[lay]
     refine fA.last (by kernel_rfl) rfl (by kernel_rfl) (fun K hK=>?_);go_simp;refine hK.out _ _ ?_;clear hK
     try simp only[lay]
     have aC:=a2.fx a0;have aZ:=zj (pR a3 ah az.out) a0;have aq:=zj (pR a3 au al.out) a0;clear k1 k2 o0 o1 o2 o3 o4 o5 hH z0;cases b
     case' true=>
      go_upto_region 18 with(first | (go_at_call 218;(with_reducible refine(zlt (fs:=fs) aC.st hR bh ak bC bw).mono ?_);rw[aj.out];rintro e w5 ⟨rfl,a9⟩));have af:ft _ w5:=a9;obtain⟨o0,o1,o2,o3,o4,o5,cI,cJ⟩:=mM (zj aq a9);have a4:=hrW mq w5 (aP++bg) (gi:Int) Av s.leaves.length cv ⟨ay,aB,bg,aP,aC.fx a9,rfl⟩ aU.out (vE aj.out).2.2.1 c7 aj.out (by rw[bQ.out];have h9:=bc.out;omega) (by have h9:=bc.out;omega);go_wp2_with(first | (go_at_call 219;(with_reducible refine a4.mono ?_);rintro e w6 ⟨rfl,h6⟩));exact QU (v:=J C (nx:Int)) (by simp[Rd,results213,go_sem]) rfl ⟨Sg (fun z=>SN (J C z)) (by have h9:=an.out;simp only[Ex.size];omega),by rw[be.out,aj.out,Q5 rfl];exact gg.from ag (gg.from ab (gg.trans a3 a8 (gg.from a0 (gg.from af h6))))⟩
     case' false=>
      go_upto_region 21 with(first | (go_at_call 218;(with_reducible refine(zlt (fs:=fs) aC.st hR bh ak bC bw).mono ?_);rw[aj.out];rintro e w5 ⟨rfl,a9⟩));have af:ft _ w5:=a9;have aR:=aC.fx a9;have cx:=hR.up aR.st.iU.2.2.2.2;have aY:=zj aZ a9;have aX:=zj aq a9;have cH:=aR.st.ij;go_wp2_with(fail);go_loopw [11,12] (fun z11 aa wi=>∃(j c:Nat),z11=J C c/\aa=J C j/\j<=gi/\c<=j/\Hid (((P.E.p.take j).filter fun x=>decide (x.Kind=0)).length=c)/\Hid (ft w5 wi)) (fun _ aa _=>gi-(Ry aa).toNat)
      case atStart=>exact⟨0,0,rfl,rfl,QX _,Q8 _,fh rfl,fh gF⟩
      case round=>
       obtain⟨j,c,rfl,rfl,d4,d0,aT,a5⟩:=hrel;by_cases hjl:j<gi
       ·have ck:(j:Int)<(gi:Int):=by omega
        obtain⟨gq,oq,xj,cM,cT,cN,cU,ap,ce,bG,v0,v1,v2,v3,_⟩:=lK (Ty.up _ cx a5.out) (show j<P.E.p.length by omega);have y0:=za a5.out cH.1;rw[ap] at y0;have d5:(j:Int)<(P.E.p.length:Int):=by omega
        have bf:=fh bG;clear ap bG;by_cases hk0:xj.Kind=0
        ·have cm:(xj.Kind == 0)=M:=Rt.2 hk0
         have aL:Hid (((P.E.p.take (j+1)).filter fun x=>decide (x.Kind=0)).length=c+1):=fh (by rw[RH,bf.out,UE,QR,aT.out];simp[hk0]);clear hk0;go_wp2_with(fail);go_roundw;exact⟨j+1,c+1,by go_num,by go_num,by omega,by omega,aL,fh (a5.out.trans gF)⟩;exact gH
        ·have cm:(xj.Kind == 0)=I:=QV.2 hk0
         have aL:Hid (((P.E.p.take (j+1)).filter fun x=>decide (x.Kind=0)).length=c):=fh (by rw[RH,bf.out,UE,QR,aT.out];simp[hk0]);clear hk0;go_wp2_with(fail);go_roundw;exact⟨j+1,c,by go_num,by go_num,by omega,by omega,aL,fh (a5.out.trans gF)⟩;exact gH
       ·obtain rfl:j=gi:=by omega
        have ck:¬ ((j:Int)<(j:Int)):=by omega
        have bN:Hid (sF P.E.p (j:Int)=(c:Int)):=fh (by rw[Jo,aT.out]);have aS:=aR.fx a5.out;have ar:=zj aY a5.out;have b1:=aS.chain.read;have bW:fD 12:=⟨by omega,by omega⟩
        have b0:fD (c:Int):=⟨by omega,by omega⟩
        obtain⟨o0,o1,o2,o3,o4,o5,cI,cJ⟩:=mM (zj aX a5.out);obtain⟨k0,k1,k2,dg,dh⟩:=jc ar;have ca:ft w5 _:=a5.out;have cE:QP C (mq.depth-t'.gW)=mq.depth-t'.gW:=RU _ ⟨by have h9:=aA.out;omega,by have h9:=aA.out;omega⟩;have cF:QP C (mq.depth-t'.gW+1)=mq.depth-t'.gW+1:=RU _ ⟨by have h9:=aA.out;omega,by have h9:=aA.out;omega⟩;go_upto_region 27 with(first | (go_at_call 203;(with_reducible refine(zeQ aS.st b1 aI ak bW b0 aF bv).mono ?_);rintro e w6 ⟨rfl,h6⟩));have bd:=fh (aS.next h6);have y9:QL w6 ⟨P.g,9,D⟩=Z (J C mq.depth):=h6.c9.1;obtain⟨_,bl,ao,_⟩:=h6
        have b6:g8∉aP:=fun hm=>by
         rcases a8 g8 (Rm _ hm) with h | h
         ·exact ah h
         ·have h9:=(blt az.out);omega
        have bI:=(jc (pR ao b6 ar)).2.1;obtain⟨yf,yl⟩:=bl.fz;clear k0 k1 k2 o0 o1 o2 o3 o4 o5 bl ao;refine vI 11 (by kernel_rfl) (by kernel_rfl) (fun wy hgy=>?_);have x9:=za hgy y9;have di:=za hgy bI
        have xf:∀ j,Rb wy ⟨P.g,j,D⟩=I:=by
         obtain⟨_,h1,_,_⟩:=bd.out;obtain⟨_,_,_,_,h2,_⟩:=h1;exact((h2.fx hgy).st.fz).1
        clear y9 bI yf;simp only[RN,Sd,RT,RZ]
        repeat still_step
        refine Ta ?_;go_wp2_with(fail);exact QU (v:=J C (nx:Int)) (by simp[Rd,results213,go_sem]) rfl ⟨Sg (fun z=>SN (J C z)) (by have h9:=an.out;simp only[Ex.size];omega),by rw[be.out,aj.out,QZ (by decide),bN.out];exact gg.from ag (gg.from ab (gg.trans a3 a8 (gg.from a0 (gg.from af (gg.from a5.out ((bd.out.fx hgy).num rfl (fun _ _ _ _ _ _ _ _ _=>rfl)))))))⟩
    have r0:(t'.Kind == 0)=I:=QV.2 q0;have r1:(t'.Kind == 1)=I:=QV.2 q1;have r7:(t'.Kind == 7)=I:=QV.2 q7;have d7:=Fx HW.out.1;have HQ:Hid ((Ex.node t' ks).comp P.E rep fs s k m=(zB P.E mq (5+t'.Kind-2) 0 k s.chain).gw (mq.depth-1)):=fh (by rw[HK.out];show oz _ _ _ _ _ _ _=_;unfold oz;rw[QZ q0,QZ q1,QZ q7]);have cB:QP C (5+t'.Kind)=5+t'.Kind:=iw;have cC:QP C (5+t'.Kind-2)=5+t'.Kind-2:=iw;have cD:QP C (mq.depth-1)=mq.depth-1:=iw;have b0:fD (5+t'.Kind-2):=⟨by omega,by omega⟩
    have bV:fD 0:=⟨by omega,by omega⟩
    clear q0 q1 q7;go_wp2_with(first | (go_at_call 203;(with_reducible refine(zeQ a2.st bq aI ak b0 bV aF bv).mono ?_);rintro e w3 ⟨rfl,h3⟩;have am:=fh (a2.next h3);obtain⟨y9,yf,yl⟩:=h3.c9;replace y9:QL w3 ⟨P.g,9,D⟩=Z (J C mq.depth):=y9;clear h3));exact QU (v:=J C (nx:Int)) (by simp[Rd,results213,go_sem]) rfl ⟨Sg (fun z=>SN (J C z)) (by have h9:=an.out;simp only[Ex.size];omega),by rw[HQ.out];exact gg.from ag (gg.from ab (gg.trans a3 a8 (am.out.num rfl (fun _ _ _ _ _ _ _ _ _=>rfl))))⟩
structure gA (B:Q (Nat × Obj))(P:jj)(T:iC)(R0:Q (Q Value))(s:fG)(W:U)(L0:Q Nat)(Ah:X Ri)(ch:Nat)(Sh:Q Nat)(L:je)(Ae:X Ri)(ce:Nat)(Se L':Q Nat)(wr:U):Prop where
 st:nD P T L.m R0 (s.wl L.leaves) wr L'
 on:fw L0 W wr
 nw:∀ b∈L',b∈L0∨W.heap.size<=b
 hd:Has (zr.sl 3) wr [G Ah L.fN.length ch] L.fN Sh
 ex:Has (qM.sl 264) wr [G Ae L.fR.length ce] L.fR Se
 dh:∀ b∈Sh,b∉L'/\b∉Se/\W.heap.size<=b
 de:∀ b∈Se,b∉L'/\W.heap.size<=b
 kb:∀ p∈B,wr.heap[p.1]?=Z p.2/\p.1∉L'/\p.1∉Sh/\p.1∉Se
section
variable {B:Q (Nat × Obj)} {P:jj} {T:iC} {R0:Q (Q Value)} {s:fG} {W:U} {L0:Q Nat} {Ah:X Ri} {ch:Nat} {Sh:Q Nat} {L:je} {Ae:X Ri} {ce:Nat} {Se L':Q Nat} {wr:U}
theorem gA.next {m':fS} {lv':Q Int} (h:gA B P T R0 s W L0 Ah ch Sh L Ae ce Se L' wr)(k:gg P T m' R0 (s.wl lv') wr L' w2):∃ L2,gA B P T R0 s W L0 Ah ch Sh ⟨m',lv',L.fN,L.fR⟩ Ae ce Se L2 w2:=by
 obtain⟨L2,h1,h2,h3⟩:=k;have a0:=h.on.size;refine⟨L2,h1,h.on.then h2 h.nw,fun b hb=>?_,h.hd.fJ h2 (fun b hb=>(h.dh b hb).1),h.ex.fJ h2 (fun b hb=>(h.de b hb).1),fun b hb=>⟨wI (fun b hb=>(h.dh b hb).1) h.hd.lt h3 b hb,(h.dh b hb).2⟩,fun b hb=>⟨wI (fun b hb=>(h.de b hb).1) h.ex.lt h3 b hb,(h.de b hb).2⟩,fun p hp=>?_⟩
 rotate_left
 ·obtain⟨k1,k2,k3⟩:=h.kb p hp
  have hl:=(blt k1)
  exact⟨(h2.block p.1 hl k2).trans k1,fun hm=>(h3 p.1 hm).elim k2 (fun h=>by omega),k3⟩
 rcases h3 b hb with hb | hb
 ·exact h.nw b hb
 ·exact .inr (by omega)
theorem gA.fx {w2:U}(h:gA B P T R0 s W L0 Ah ch Sh L Ae ce Se L' wr)(hg:ft wr w2):gA B P T R0 s W L0 Ah ch Sh L Ae ce Se L' w2:=
 ⟨h.st.fx hg,h.on.trans (hg.only _),h.nw,h.hd.fx hg,h.ex.fx hg,h.dh,h.de,fun p hp=>⟨zj (h.kb p hp).1 hg,(h.kb p hp).2⟩⟩
theorem nD.fJ {m:fS}{S Lx:Q Nat}{w w2:U}(h:nD P T m R0 s w Lx)(ho:fw S w w2)(hS:∀ b∈S,b∉Lx/\P.Y.heap.size<=b/\b∉T.Sc/\b∉T.Sl):nD P T m R0 s w2 Lx:=by
 obtain⟨Av,cv,Sv,Lm,h,rfl⟩:=h;refine⟨Av,cv,Sv,Lm,⟨h.st.fJ ho (fun b hb=>⟨fun hm=>(hS b hb).1 (Rm _ hm),(hS b hb).2.1⟩),h.chain.fJ ho (fun b hb hm=>(hS b hm).2.2.1 hb),h.locals.fJ ho (fun b hb hm=>(hS b hm).2.2.2 hb),h.leaves.fJ ho (fun b hb hm=>(hS b hm).1 (Rr _ hb)),h.dc,h.dl,h.dv,h.lv⟩,rfl⟩
theorem gA.fR {A2:X Ri} {c2:Nat} {S2:Q Nat} {xs:Q (Int × Int)} (h:gA B P T R0 s W L0 Ah ch Sh L Ae ce Se L' wr)(hY:P.Y.heap.size<=W.heap.size)(hT:(∀ b∈T.Sc,b<W.heap.size)/\∀ b∈T.Sl,b<W.heap.size)
  (hL:∀ b∈L',b<wr.heap.size) (ho:fw Se wr w2) (hH:Has (qM.sl 264) w2 [G A2 xs.length c2] xs S2) (hS:∀ b∈S2,b∈Se∨wr.heap.size<=b):gA B P T R0 s W L0 Ah ch Sh ⟨L.m,L.leaves,L.fN,xs⟩ A2 c2 S2 L' w2:=by
 have a1:=h.on.size;have a0:=h.hd.lt;refine⟨h.st.fJ ho (fun b hb=>⟨(h.de b hb).1,by have:=(h.de b hb).2;omega,fun hm=>by have:=(h.de b hb).2;have:=hT.1 b hm;omega,fun hm=>by have:=(h.de b hb).2;have:=hT.2 b hm;omega⟩),?_,h.nw,h.hd.fJ ho (fun b hb=>(h.dh b hb).2.1),hH,fun b hb=>⟨(h.dh b hb).1,fun hm=>?_,(h.dh b hb).2.2⟩,fun b hb=>?_,fun p hp=>?_⟩
 ·exact h.on.then ho (fun b hb=>.inr (h.de b hb).2)
 ·rcases hS b hm with h1 | h1
  ·exact(h.dh b hb).2.1 h1
  ·have:=a0 b hb;omega
 ·rcases hS b hb with h1 | h1
  ·exact h.de b h1
  ·exact⟨fun hm=>by have:=hL b hm;omega,by omega⟩
 ·obtain⟨k1,k2,k3,k4⟩:=h.kb p hp
  have hl:=(blt k1)
  exact⟨(ho.block p.1 hl k4).trans k1,k2,k3,fun hm=>(hS p.1 hm).elim k4 (fun h=>by omega)⟩
theorem gA.head (h:gA B P T R0 s W L0 Ah ch Sh L Ae ce Se L' wr)(hY:P.Y.heap.size<=W.heap.size)(hT:(∀ b∈T.Sc,b<W.heap.size)/\∀ b∈T.Sl,b<W.heap.size){k:Nat}{v:Int}(hk:L.fN[k]?=Z v) :
  ∃ gh,Ah=Z ⟨gh,0,D⟩/\gh<wr.heap.size/\(∀ j,Rb wr ⟨gh,j,D⟩=I)/\QL wr ⟨gh,k,D⟩=Z (J C v)/\fD v/\gh≠P.g/\∀ u,fD u->gA B P T R0 s W L0 Ah ch Sh ⟨L.m,L.leaves,L.fN.set k u,L.fR⟩ Ae ce Se L' (wr.setCell ⟨gh,k,D⟩ (J C u)):=by
 obtain⟨gh,el,a6,rfl,a3,a4,_,_,_,hO,hf,hc,a0,_⟩:=qt h.hd.1 h.hd.2 hk;obtain⟨rfl,b1,b2,rfl⟩:=hO;have a1:=hc 0 _ rfl;rw[show k*zr.size+0=k from by show k*1+0=k;omega] at a1
 have a2:P.g∈L':=by
  obtain⟨Av,cv,Sv,Lm,h1,h2⟩:=h.st;rw[h2];exact Rm _ h1.st.iU.1
 refine⟨gh,rfl,a4,hf,a1,⟨b1,b2⟩,fun e=>(h.dh gh a3).1 (e ▸ a2),fun u hu=>?_⟩;have hp:=a0 0 (J C u) u (by decide) rfl ⟨rfl,hu.1,hu.2,rfl⟩;rw[show k*zr.size+0=k from by show k*1+0=k;omega] at hp;have a5:=hp.2;refine⟨h.st.fJ hp.2 (fun b hb=>⟨(h.dh b hb).1,by have:=(h.dh b hb).2.2;omega,fun hm=>by have:=(h.dh b hb).2.2;have:=hT.1 b hm;omega,fun hm=>by have:=(h.dh b hb).2.2;have:=hT.2 b hm;omega⟩),h.on.then hp.2 (fun b hb=>.inr (h.dh b hb).2.2),h.nw,?_,h.ex.fJ hp.2 (fun b hb hm=>(h.dh b hm).2.1 hb),h.dh,h.de,fun p hp=>⟨(a5.block p.1 (R5.1 (h.kb p hp).1).1 (h.kb p hp).2.2.1).trans (h.kb p hp).1,(h.kb p hp).2⟩⟩;rw[Rn];exact⟨hp.1,h.hd.2⟩
end
theorem OM {ex:Q (Int × Int)} {v:Int} (h:gA B P T R0 s W L0 Ah ch Sh ⟨m,lv,hd,ex⟩ Ae ce Se L' wr)(hcl:s.chain.length<=1000)(hml:m.items.length<=100000)(hv:fD v)(hdp : -1000000<=m.depth/\m.depth<=1000000)(hl:fD line) :
  Rh prog 211 #[.pointer (Z ⟨P.g,0,D⟩),J C v,J C line,G T.Ac s.chain.length T.cc] wr fun r w'=>r=.returned (.tuple #[])/\∃ L2,gA B P T R0 s W L0 Ah ch Sh ⟨lZ P.E m v line s.chain,lv,hd,ex⟩ Ae ce Se L2 w':=by
 obtain⟨Av,cv,Sv,Lm,hB,hL⟩:=h.st;subst hL;exact(zlg (chain:=s.chain) hB.st hB.chain.read hcl hml hv hdp hl).mono fun r w' hh=>⟨hh.1,h.next (hB.next hh.2)⟩
theorem ya {ex:Q (Int × Int)} {code arg:Int} (h:gA B P T R0 s W L0 Ah ch Sh ⟨m,lv,hd,ex⟩ Ae ce Se L' wr)(hcl:s.chain.length<=1000)(hml:m.items.length<=100000)(h0:fD code)(h1:fD arg)(h2:fD line)(h3:fD m.depth) :
  Rh prog 203 #[.pointer (Z ⟨P.g,0,D⟩),J C code,J C arg,J C line,G T.Ac s.chain.length T.cc] wr fun r w'=>r=.returned (.tuple #[])/\∃ L2,gA B P T R0 s W L0 Ah ch Sh ⟨zB P.E m code arg line s.chain,lv,hd,ex⟩ Ae ce Se L2 w':=by
 obtain⟨Av,cv,Sv,Lm,hB,hL⟩:=h.st;subst hL;exact(zeQ (chain:=s.chain) hB.st hB.chain.read hcl hml h0 h1 h2 h3).mono fun r w' hh=>⟨hh.1,h.next (hB.next hh.2)⟩
theorem Io {ex:Q (Int × Int)} {k:Int} {last:Bool} (h:gA B P T R0 s W L0 Ah ch Sh ⟨m,lv,hd,ex⟩ Ae ce Se L' wr)(he:gP P.E)(hcl:s.chain.length<=1000)(hml:m.items.length<=100000)(hlv:lv.length<=100000)(hdp : -1000000<=m.depth/\m.depth<=1000000)(hk:fD k)(hn:R0.length<=100) :
  Rh prog 212 #[.pointer (Z ⟨P.g,0,D⟩),J C k,H last] wr fun r w'=>r=.returned (.tuple #[])/\∃ L2,gA B P T R0 s W L0 Ah ch Sh ⟨(kN P.E s k last ⟨m,lv,hd,ex⟩).m,(kN P.E s k last ⟨m,lv,hd,ex⟩).leaves,hd,ex⟩ Ae ce Se L2 w':=
 (zvJ (QG:=hd) (QJ:=ex) h.st he hcl hml hlv hdp hk hn).mono fun r w' hh=>⟨hh.1,h.next hh.2⟩
theorem Hk {ex:Q (Int × Int)} {tgt:Int} (h:gA B P T R0 s W L0 Ah ch Sh ⟨m,lv,hd,ex⟩ Ae ce Se L' wr)(hj:∀ e∈ex,gU m.items e.2)(hml:m.items.length<=100000)(hel:ex.length<=100000) :
  Rh prog 210 #[.pointer (Z ⟨P.g,0,D⟩),G Ae ex.length ce,J C tgt] wr fun r w'=>r=.returned (.tuple #[])/\∃ L2,gA B P T R0 s W L0 Ah ch Sh ⟨lD m ex tgt,lv,hd,ex⟩ Ae ce Se L2 w':=by
 obtain⟨Av,cv,Sv,Lm,hB,hL⟩:=h.st;subst hL;exact(zvR (tgt:=tgt) hB.st h.ex (fun b hb hm=>(h.de b hb).1 (Rm _ hm)) hj hml hel).mono fun r w' hh=>⟨hh.1,h.next (hB.next hh.2)⟩
theorem gA.xo {L:je} (h:gA B P T R0 s W L0 Ah ch Sh L Ae ce Se L' wr):∀ b∈L',b<wr.heap.size:=by
 obtain⟨Av,cv,Sv,Lm,h1,rfl⟩:=h.st;exact fun b hb=>(Q7.1 hb).elim (h1.st.iU.2.2.1 b) (h1.leaves.lt b)
theorem gA.jF {L:je} {cs:Array Value} {t:TypeId} (h:gA B P T R0 s W L0 Ah ch Sh L Ae ce Se L' wr) :
  gA ((wr.heap.size,F cs t (0,0))::B) P T R0 s W L0 Ah ch Sh L Ae ce Se L' (wr.alloc (F cs t)):=by
 have hg:ft wr (wr.alloc (F cs t)):=(ft.refl _).alloc _;have h1:=h.fx hg;refine⟨h1.st,h1.on,h1.nw,h1.hd,h1.ex,h1.dh,h1.de,fun p hp=>?_⟩;rcases Rp.1 hp with rfl | hp
 ·exact⟨QO _ _,fun hm=>by have:=h.xo _ hm;simp only at this;omega,fun hm=>by have:=h.hd.lt _ hm;simp only at this;omega,fun hm=>by have:=h.ex.lt _ hm;simp only at this;omega⟩
 ·exact h1.kb p hp
theorem gA.drop {B':Q (Nat × Obj)} {L:je} (h:gA B P T R0 s W L0 Ah ch Sh L Ae ce Se L' wr)(hs:∀ p∈B',p∈B):gA B' P T R0 s W L0 Ah ch Sh L Ae ce Se L' wr:=
 ⟨h.st,h.on,h.nw,h.hd,h.ex,h.dh,h.de,fun p hp=>h.kb p (hs p hp)⟩
theorem O0 (E:fW)(rep:Int->fS->fS)(fs:Q Int)(s:fG)(lv:Q Int)(k:Int)(t:gB)(m:fS):oz E rep fs (s.wl lv) k t m=oz E rep fs s k t m:=rfl
mutual
theorem Ex.kL (E:fW)(rep:Int->fS->fS)(fs:Q Int)(s:fG)(lv:Q Int)(k:Int):∀(e:Ex)(m:fS),e.comp E rep fs (s.wl lv) k m=e.comp E rep fs s k m
 | .node t ks,m=>by simp only[Ex.comp,gk.kL E rep fs s lv k ks,O0]
theorem gk.kL (E:fW)(rep:Int->fS->fS)(fs:Q Int)(s:fG)(lv:Q Int)(k:Int):∀(ks:gk)(m:fS),ks.comp E rep fs (s.wl lv) k m=ks.comp E rep fs s k m
 | .nil,_=>rfl
 | .cons e r,m=>by simp only[gk.comp,Ex.kL E rep fs s lv k e,gk.kL E rep fs s lv k r]
end
def AV (P:jj)(d:Nat):Prop:=∀(T:iC)(R0:Q (Q Value))(s:fG)(fs0:Q Int)(k:Nat),iu P.E s->(fs0++[s.f]).length=s.chain.length+1->s.chain.length+d=3->iR fs0 R0->R0.length<=3->k<P.E.p.length->kM P.E.p k≠0->
 IM P T R0 s (fun g m=>jL P.E (iX P.E d) (fs0++[s.f]) k s g m) (fs0++[s.f]) k d/\sT P.E (fun g m=>jL P.E (iX P.E d) (fs0++[s.f]) k s g m) (fs0++[s.f]) d
theorem KV (hE:gP P.E):AV P 0:=by
 intro T R0 s a0 k hs a1 hd hF hn hk a2;refine⟨fun m W L g A2 n2 c2 _ _ _ _ hrep _ _=>?_,fun g m _ _ _ hrep=>?_⟩
 all_goals
  have h1:=(vE hrep).1
  have h2:=hE.inl.2
  exfalso
  omega
theorem Lo (hR:qi P)(hL:AU P d):AV P (d+1):=by
 intro T R0 s a2 k hs a0 hd hF hn hk a1;refine⟨fun m W L g A2 n2 c2 h hm hc hg hrep h0 h1=>zs5 hL hR h hF hs hd a0 hm hc hg hrep h0 h1 hk a1,?_⟩;exact DO hR.env hs (Cq hR.env d) a0 hd hk a1
theorem OS {ex:Q (Int × Int)} {i:Int} {Av:X Ri} {nv cv:Nat} (h:gA B P T R0 s W L0 Ah ch Sh ⟨m,lv,hd,ex⟩ Ae ce Se L' wr)(hcl:s.chain.length<=1000)(hml:m.items.length<=100000)(hi:0<=i/\i<=100)(hdp : -1000000<=m.depth/\m.depth<=1000000)(hf : -1000<=s.first/\s.first<=1000)(ha:0<=P.E.args/\P.E.args<=100)(hl:fD line) :
  Rh prog 214 #[.pointer (Z ⟨P.g,0,D⟩),.agg #[J C s.f,G T.Ac s.chain.length T.cc,G T.Al s.locals.length T.cl,J C s.first,H s.outer,G Av nv cv],J C i,J C line,G T.Ac s.chain.length T.cc] wr fun r w'=>r=.returned (.tuple #[])/\∃ L2,gA B P T R0 s W L0 Ah ch Sh ⟨mW P.E m s i line s.chain,lv,hd,ex⟩ Ae ce Se L2 w':=by
 obtain⟨a0,a1,Sv,Lm,hB,hL⟩:=h.st;subst hL;exact(zrN (s:=s) (chain:=s.chain) (Ac:=T.Ac) (cc:=T.cc) hB.st hB.chain.read hcl hml hi hdp hf ha hl).mono fun r w' hh=>⟨hh.1,h.next (hB.next hh.2)⟩
theorem PN {ex:Q (Int × Int)} {fs0:Q Int} {e:Ex} (hR:qi P)(hs:iu P.E s)(hrep:AV P d)(hfs:(fs0++[s.f]).length=s.chain.length+1)(hd3:s.chain.length+d=3)(hF:iR fs0 R0)(hn:R0.length<=3)(hx:P.E.p[k]?=Z xl)(hk0:kM P.E.p k≠0)
  (h:gA B P T R0 s W L0 Ah ch Sh ⟨m,lv,hd,ex⟩ Ae ce Se L' wr) (hw:e.wf) (hxe:xl.Expr=e.flat) (hnm:zQ P.E.p s.locals e.flat=M) (hm:iB P.E m) (hcnt:max m.items.length (200+iO d)+e.size<=8000) (hd0:0<=m.depth) (hd1:m.depth+e.size<=jN d+1) :
  Rh prog 213 #[.pointer (Z ⟨P.g,0,D⟩),J C k,J C 0] wr fun r w'=>(∃ v:Int,r=.returned (J C v))/\∃ L2,gA B P T R0 s W L0 Ah ch Sh ⟨sW P.E (fun g m=>jL P.E (iX P.E d) (fs0++[s.f]) k s g m) (fs0++[s.f]) s k xl.Expr m,lv,hd,ex⟩ Ae ce Se L2 w':=by
 have a0:iu P.E (s.wl lv):=⟨hs.qN,hs.locals,hs.first,hs.chain,hs.outer⟩
 have a1:=(QM.1 hx).1;obtain⟨a3,a2⟩:=hrep T R0 (s.wl lv) fs0 k a0 hfs hd3 hF hn a1 hk0;have hc:=zwC hR a0 a3 a2 (hF.snoc (s.wl lv) T D 0) hn hx e.size e (Q8 _) (a:=0) (rs:=[]) h.st hw (by rw[RZ,SC,hxe]) hnm hm hcnt hd0 hd1;refine hc.mono fun r w' hh=>⟨⟨_,hh.1⟩,?_⟩;obtain⟨L2,h2⟩:=h.next (lv':=lv) hh.2;refine⟨L2,?_⟩;rw[hxe,AA hw,<-Ex.kL P.E _ _ s lv];exact h2
end Go.Proofs.YthgbglbaemelhaaGreat
