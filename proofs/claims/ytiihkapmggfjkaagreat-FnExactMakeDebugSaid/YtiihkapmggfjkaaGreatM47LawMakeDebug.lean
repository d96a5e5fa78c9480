/-
  PART.
-/
import Derived.Test.YtiihkapmggfjkaaGreatM42LawMakeDebug
set_option linter.unusedVariables false
set_option linter.unusedSimpArgs false
set_option maxRecDepth 100000
set_option maxHeartbeats 8000000
namespace Go.Proofs.YtiihkapmggfjkaaGreat
open Value renaming slice->J,int->F,bool->X
open IntKind renaming i64->I,wrap->Ll
open Option renaming none->V,some->H
open Obj renaming cells->C
open Bool renaming false->U,true->M
open Go renaming World->N,results->Ly,Value->LA,Calls->LR,Addr->Mh,yielded->NA
open World renaming cell?->Lg,setCell->MH
open List renaming length_cons->LJ,getElem?_cons_zero->Mf,length_nil->Mk,take_succ_cons->Mm,nil_append->Mw,take_zero->MN,getElem?_cons_succ->MV,foldl_cons->NC
open RowKit renaming intOf->Ml
open Region renaming wanted->MI,ready->MK,Mode->Nz,noSelect->ND,free->Oq
open Tryz
open Go.RowKit
variable {A:K Mh}{L:Q Nat}{W W' w:N}{a g image:Int}{b:gC}{c f lo n:Nat}{fs:Q Int}{hd:Q LA}{hs:Q (Q LA)}{its:Q fS}{p:Q fG}{s:fL}{xs:Q fQ}{xss:Q (Q fQ)}
theorem zpW (hf:f<=1000):LR prog 193 #[F I f,.agg #[F I b.Frames,F I b.Inline,X b.Fold,X b.Split],F I image] w fun e w'=>e=.returned (X (me b f image))/\fF w w':=by
 obtain⟨bF,bI,a0,bS⟩:=b;cases bS with
 | true=>
  have HI:Hid (me ⟨bF,bI,a0,M⟩ f image=((f:Int) % 2 == image)):=fE (by unfold me;simp only[Nx];cases h:decide ((f:Int) % 2=image) with
   | true=>rw[NR] at h;rw[h];simp
   | false=>rw[Me] at h;exact(Lk.2 h).symm)
  have hm:Int.tmod (f:Int) 2=(f:Int) % 2:=OG (by omega);go_enter func193,ntmps193;go_wp2_with(fail);go_ret;exact⟨zy HI.out.symm,gG⟩
 | false=>
  have HI:Hid (me ⟨bF,bI,a0,U⟩ f image=(image == 0)):=fE (by unfold me;simp only[OH,if_false];cases h:decide (image=0) with
   | true=>rw[NR] at h;rw[h];rfl
   | false=>rw[Me] at h;exact(Lk.2 h).symm)
  go_enter func193,ntmps193;go_wp2_with(fail);go_ret;exact⟨zy HI.out.symm,gG⟩
-- FP
theorem rE {g:Prop} (f:g:=by
  have hrow:l9 w.heap.size Y S7 [F I sk,F I x.Op.Code,F I va,F I x.fN,X x.Start,J A8 x.fH.length c8,F I x.fK,X x.fI] (lf ST k x):=by
   rw[HPL.out]
   exact⟨A8,c8,S8,rfl,hchY.1,hScS,hskI,hxcI,hvI,hxlI,hxdI⟩
  exact⟨k+1,rs++[[F I sk,F I x.Op.Code,F I va,F I x.fN,X x.Start,J A8 x.fH.length c8,F I x.fK,X x.fI]],acc++[lf ST k x],A6,c6,S6,by rw[Lj];rfl,by go_num,by omega,fE (xL hO7.out hS7.out (fF.trans hgY gF) hon),fE (yh hO7.out hS7.out (fF.trans hgY gF) hS6),fE (by rw[Lj];exact hH6),fE (gQ.push hPY hrow gF hon hS6),fE (by rw[<-hA4.out,HAT.out,LZ];rfl),fE (by rw[Lj,hrl.out];rfl)⟩):g:=f
theorem zm5 (hH:(lL.sl 131).R w w.heap.size [J A its.length c] its)(hI:iJ p its)(hn:its.length<=2400)(ha:0<=a/\a<=100000) :
  LR prog 194 #[J A its.length c,F I a] w (py (jD its a) w):=by
 have bg:=fE hI;clear hI;have e0:(w.alloc (C #[] 133)).heap[w.heap.size]?=H (C #[] 133 (0,0)):=Lp w _;have aL:fF w (w.alloc (C #[] 133)):=(fF.refl _).alloc _;have a9:(w.alloc (C #[] 133)).heap.size=w.heap.size+1:=Mo ..;have aQ:Has ((jK 8).sl 133) (w.alloc (C #[] 133)) [J (H ⟨w.heap.size,0,V⟩) 0 0] [] [w.heap.size]:=Has.emp (jK 8) e0;clear e0;go_enter func194,ntmps194;go_upto_region 2 with(fail);generalize w.alloc _=w1 at aL a9 aQ |-;have bh:=fE aQ;have aJ:=fE a9;clear aQ a9;go_wp2_with(fail);go_loopw [6,7,17] (fun z6 z7 z17 wr=>∃(k:Nat) (a1:Int) (st:Q Int) (aH:K Mh) (ar:Nat) (aC:Q Nat),z6=J aH k ar/\z7=F I a1/\z17=F I k/\k<=its.length/\a<=a1/\a1<=a+5*(k:Int)/\Hid (st.length=k)/\Hid (fF w1 wr)/\Hid (Has (zF.sl 3) wr [J aH k ar] st aC)/\Hid (∀ b∈aC,w1.heap.size<=b)/\Hid (st++jR (its.drop k) a1=jR its a)) (fun _ _ z17 _=>its.length-(Ml z17).toNat)
 case atStart=>exact⟨0,a,[],_,0,[w1.heap.size],rfl,rfl,rfl,Lv _,N2 _,by omega,fE rfl,fE gF,fE (Has.emp zF (Lp w1 _)),fE (fun b hb=>by simp only[Lr] at hb;omega),fE rfl⟩
 case round=>
 obtain⟨k,a1,st,aH,ar,aC,rfl,rfl,rfl,hk,bC,bB,bw,au,aO,aE,b7⟩:=hrel;by_cases hkl:k<its.length
 ·have aX:(k:Int)<(its.length:Int):=by omega
  have bx:Ll I ((k:Int)+1)=(k:Int)+1:=iw;obtain⟨gi,oi,x,ab,ae,hA,aV,an,y0,y1,y2,y3,y4,y5,y6,_⟩:=AB hH hkl;have aj:=aL.trans au.out;have y0:=za aj y0;have y1:=za aj y1;have y2:=za aj y2;have y3:=za aj y3;have y4:=za aj y4;have y5:=za aj y5;have y6:=za aj y6;have bF:=qU x.Op.Code;have bI:Ll I (a1+zA x.Op.Code)=a1+zA x.Op.Code:=iw;have aS:fV a1:=⟨by omega,by omega⟩
  have bk:=fE (C7 an a1);subst hA;clear an;go_upto_region 7 with(fail);have eb:(wr.alloc (C #[F I x.Op.Code,F I x.Op.Arg,F I x.fN,X x.Start,J ab x.fH.length ae,F I x.fK,X x.fI] 131)).heap[wr.heap.size]?=H (C #[F I x.Op.Code,F I x.Op.Arg,F I x.fN,X x.Start,J ab x.fH.length ae,F I x.fK,X x.fI] 131 (0,0)):=Lp _ _;have a3:fF wr (wr.alloc (C #[F I x.Op.Code,F I x.Op.Arg,F I x.fN,X x.Start,J ab x.fH.length ae,F I x.fK,X x.fI] 131)):=(fF.refl _).alloc _;obtain⟨g9,a6⟩:∃ g,wr.heap.size=g:=⟨_,rfl⟩
  rw[a6] at eb |-;have a0:g9∉aC:=fun hm=>by have h:=aO.out.lt g9 hm;omega
  generalize wr.alloc _=Ya at eb a3 |-;have aK:=(blt eb)
  clear y0 y1 y2 y3 y4 y5 y6 a6;go_wp2_with(first | (at_builtin;refine zr (L:=k+1) rfl (.tmp 21) (.tmp 23) kJ zP ((aO.out.fO a3).fO gF) (W1:=w) (B:=0) (ec:=[F I a1]) (y:=a1) (vp _ _ aS) rfl rfl rfl (by intro j u hu;simpa[go_sem] using hu) rfl (by omega) (by omega) ?_;intro A8 c8 W8 S8 hon av aD;have bb:=(hon.block g9 (Li aK (fF.size gF)) a0).trans (zj eb gF);obtain⟨b0,_,_,_,_,_,_,bf,bl⟩:=mr bb) | (go_at_call 114;(with_reducible refine(zcV _ _).mono ?_);rintro e w9 ⟨rfl,rfl⟩));go_roundw;exact⟨k+1,a1+zA x.Op.Code,st++[a1],A8,c8,S8,rfl,rfl,by go_num,by omega,by omega,by omega,fE (by rw[Lj,bw.out];rfl),fE (hon.fO ((au.out.trans a3).trans gF) aE.out),fE av,fE (fun b hb=>(aD b hb).elim (aE.out b) (fun h=>LO (fF.size ((au.out.trans a3).trans gF)) h)),fE (by rw[<-b7.out,bk.out,LZ];rfl)⟩;exact gL
 obtain rfl:k=its.length:=by omega
 have aX:¬ ((its.length:Int)<(its.length:Int)):=by omega
 have aS:fV a1:=⟨by omega,by omega⟩
 have b4:Hid (st++[a1]=jR its a):=fE (by rw[<-b7.out,LY];rfl);obtain⟨ST,a4⟩:∃ ST,jR its a=ST:=⟨_,rfl⟩
 have aB:Hid (ST.length=its.length+1):=fE (by rw[<-a4];exact yi _ _);have b3:Hid (∀ v∈ST,a<=v/\v<=a+5*(its.length:Int)):=fE (by rw[<-a4];exact yH _ _);have bj:Hid (jD its a=nJ ST its 0):=fE (by rw[<-a4];rfl);rw[a4] at b4;clear a4;go_wp2_with(first | (at_builtin;refine zr (L:=its.length+1) rfl (.tmp 32) (.tmp 34) kJ zP (aO.out.fO gF) (W1:=w) (B:=0) (ec:=[F I a1]) (y:=a1) (vp _ _ aS) rfl rfl rfl (by intro j u hu;simpa[go_sem] using hu) rfl (by omega) (by omega) ?_;intro A9 c9 w9 S9 az aM b6));have a6:fF w1 w9:=az.fO (fF.trans au.out gF) aE.out;have ba:∀ b∈S9,w1.heap.size<=b:=fun b hb=>(b6 b hb).elim (aE.out b) (fun h=>LO (fF.size (fF.trans au.out gF)) h);rw[b4.out] at aM;have aq:=fE a6;obtain⟨gt,bm,aa,af,a5⟩:=DY aM (by rw[aB.out];omega);subst bm;have aI:=fE a5;have b9:=ba gt aa;have bi:=fE (bh.out.fO a6);clear aM ba az b6 a6 a5 aa;go_loopw [5,38] (fun z5 z38 wr=>∃(k:Nat) (rs:Q (Q LA)) (acc:Q fQ) (A7:K Mh) (c7:Nat) (S7:Q Nat),z5=J A7 rs.length c7/\z38=F I k/\k<=its.length/\Hid (fJ [w.heap.size] w9 wr)/\Hid (∀ b∈S7,b∈[w.heap.size]∨w9.heap.size<=b)/\Hid (Has ((jK 8).sl 133) wr [J A7 rs.length c7] rs S7)/\Hid (gQ w.heap.size wr S7 rs acc)/\Hid (acc++nJ ST (its.drop k) k=jD its a)/\Hid (rs.length=k)) (fun _ z38 _=>its.length-(Ml z38).toNat)
 case atStart=>exact⟨0,[],[],_,0,_,rfl,rfl,Lv _,fE (fJ.refl _ _),fE (fun b hb=>.inl hb),bi,fE (gQ.nil _ _ _),fE (by rw[bj.out];rfl),fE rfl⟩
 case round=>
 obtain⟨k,rs,acc,A7,c7,S7,rfl,rfl,hk,hO7,hS7,am,al,hA4,hrl⟩:=hrel;have bG:rs.length<=2400:=by have:=hrl.out;omega
 have bL:=hO7.out.size;have bK:=aq.out.size;have a9:w.heap.size+1<=w1.heap.size:=by have:=aJ.out;omega
 have aW:=aL.trans aq.out;have a2:fF w wr:=hO7.out.fO aW (fun b hb=>by simp only[Lr] at hb;omega);by_cases hkl:k<its.length
 ·have aX:(k:Int)<(its.length:Int):=by omega
  have bx:Ll I ((k:Int)+1)=(k:Int)+1:=iw;obtain⟨gi,oi,x,ab,ae,hA,aV,an,y0,y1,y2,y3,y4,y5,y6,hxcI,aY,hxlI,aU,hxdI⟩:=AB hH hkl;have y0:=za a2 y0;have y1:=za a2 y1;have y2:=za a2 y2;have y3:=za a2 y3;have y4:=za a2 y4;have y5:=za a2 y5;have y6:=za a2 y6;have a8:gt∉[w.heap.size]:=by simp only[Lr];omega
  have ai:gt<wr.heap.size:=by omega
  have ay:gt∉S7:=fun hm=>(hS7.out gt hm).elim a8 (fun h=>by omega);obtain⟨sk,aA⟩:∃ v,ST[k]?=H v:=⟨_,Lo (by rw[aB.out];omega)⟩
  obtain⟨be,hskI⟩:=aI.out k sk aA;have tk:=(hO7.out.cell af a8 k).trans be;have bv:(k:Int)<(its.length:Int)+1:=by omega
  have aP:=bg.out k x an;have bq:=aP.chain.1;have HAT:=fE (BU (st:=ST) an);have HJ:=fE aP.jump;subst hA;clear an be aP;go_upto_region 14 with(fail);have eb:(wr.alloc (C #[F I x.Op.Code,F I x.Op.Arg,F I x.fN,X x.Start,J ab x.fH.length ae,F I x.fK,X x.fI] 131)).heap[wr.heap.size]?=H (C #[F I x.Op.Code,F I x.Op.Arg,F I x.fN,X x.Start,J ab x.fH.length ae,F I x.fK,X x.fI] 131 (0,0)):=Lp _ _;have a3:fF wr (wr.alloc (C #[F I x.Op.Code,F I x.Op.Arg,F I x.fN,X x.Start,J ab x.fH.length ae,F I x.fK,X x.fI] 131)):=(fF.refl _).alloc _;obtain⟨Y0,b8⟩:∃ Y0,wr=Y0:=⟨_,rfl⟩
  obtain⟨g9,a6⟩:∃ g,wr.heap.size=g:=⟨_,rfl⟩
  rw[a6] at eb |-;have a0:g9∉S7:=fun hm=>by have h:=am.out.lt g9 hm;omega
  generalize wr.alloc _=Ya at eb a3 |-;have aK:=(blt eb)
  have bA:=a3.size;rw[b8] at a3 am al hO7 a6 a2 tk ai;have b1:=fE a6;obtain⟨_,_,_,_,o4,_,_,of,ol⟩:=mr eb;clear y0 y1 y2 y3 y4 y5 y6 a6 b8;go_upto_region 15 with(first | (at_builtin;refine qH (L:=x.fH.length) rfl (.tmp 43) (.tmp 45) kJ zP (Has.emp zF (Lp Ya _)) (Ty.up _ aU ((a2.trans a3).trans gF)) rfl rfl rfl (by omega) (by omega) (by omega) ?_;intro A8 c8 W8 S8 hon av aD;have bb:=(hon.block g9 (Li aK (fF.size gF)) (by simp only[Lr];omega)).trans (zj eb gF);obtain⟨_,_,_,_,o4,_,_,of,ol⟩:=mr bb));rw[Mw] at av;have ax:fF Y0 W8:=hon.fO (a3.trans gF) (fun b hb=>by simp only[Lr] at hb;have:=a3.size;omega);have a7:∀ b∈S8,Ya.heap.size<=b:=fun b hb=>(aD b hb).elim (fun h=>by simp only[Lr] at h;omega) (fun h=>LO (fF.size gF) h);have aw:g9∉S8:=fun hm=>by have:=a7 _ hm;omega
  have ac:=fE (jo (i:=4) (v:=J A8 x.fH.length c8) (cur':=#[F I x.Op.Code,F I x.Op.Arg,F I x.fN,X x.Start,J A8 x.fH.length c8,F I x.fK,X x.fI]) bb rfl);have ad:=fE (ax.setRow (p:=⟨g9,4,V⟩) (N4 b1.out) (J A8 x.fH.length c8));have ao:=fE (av.fU ((fJ.refl [g9] _).setCell (p:=⟨g9,4,V⟩) (by simp) (J A8 x.fH.length c8)) (fun b hb hm=>by simp only[Lr] at hm;exact aw (hm ▸ hb)));have bz:=am.out.lt;have hScS:∀ b∈S8,b∉S7/\w.heap.size<=b:=fun b hb=>⟨fun hm=>by have h1:=bz b hm;have h2:=a7 b hb;have h3:=a3.size;omega,by have h2:=a7 b hb;have h3:=a3.size;have h4:=a2.size;omega⟩;clear bb o4 of ol hon av aD ax a7 eb;generalize MH W8 ⟨g9,4,V⟩ (J A8 x.fH.length c8)=Y1 at ac ad ao |-;obtain⟨o0,o1,o2,o3,o4,o5,o6,of,ol⟩:=mr ac.out;by_cases hj:x.Op.Code=10∨x.Op.Code=11
  ·obtain⟨ag,aT⟩:∃ ag:Nat,x.Op.Arg=(ag:Int):=⟨x.Op.Arg.toNat,by have:=HJ.out hj;omega⟩
   have bp:ag<=its.length:=by have:=HJ.out hj;omega
   obtain⟨sa,aG⟩:∃ v,ST[ag]?=H v:=⟨_,Lo (by rw[aB.out];omega)⟩
   obtain⟨s1,aF⟩:∃ v,ST[k+1]?=H v:=⟨_,Lo (by rw[aB.out];omega)⟩
   have aR:=Bp hj aT aA aG aF;obtain⟨bd,bu⟩:=aI.out ag sa aG;obtain⟨bc,bt⟩:=aI.out (k+1) s1 aF;have ta:=za ad.out ((hO7.out.cell af a8 ag).trans bd);have t1:=za ad.out ((hO7.out.cell af a8 (k+1)).trans bc);have bE:=b3.out sa (LP aG);have bD:=b3.out s1 (LP aF);have bJ:Ll I (sa-s1)=sa-s1:=iw;have hvI:fV (sa-s1):=⟨by omega,by omega⟩
   have bo:(ag:Int)<(its.length:Int)+1:=by omega
   have bs:(k:Int)+1<(its.length:Int)+1:=by omega
   have bH:((k:Int)+1).toNat=k+1:=by omega
   have br:(0:Int)<=(k:Int)+1:=by omega
   rw[aT] at o1;clear aT bd bc aA aG aF;rcases hj with hj | hj
   case' inl=>have b5:(x.Op.Code == 10)=M:=LM.2 hj
   case' inr=>
    have b5:(x.Op.Code == 10)=U:=Lk.2 (by omega);have ar:(x.Op.Code == 11)=M:=LM.2 hj
   all_goals
    clear hj
    go_upto_region 16 with(fail)
    clear o0 o2 o3 o4 o5 o6 of ol
    refine mv 14 (by kernel_rfl) (by kernel_rfl) (fun wy hgy=>?_)
    have o1:=za hgy o1
    have ta:=za hgy ta
    have t1:=za hgy t1
    obtain⟨_,_,_,_,_,_,_,of,ol⟩:=mr (zj ac.out hgy)
    simp only[Mm,MN,Mr,Mt]
    repeat still_step
    refine M6 ?_
    have ap:=fE (jo (i:=1) (v:=F I (sa-s1)) (cur':=#[F I x.Op.Code,F I (sa-s1),F I x.fN,X x.Start,J A8 x.fH.length c8,F I x.fK,X x.fI]) (zj ac.out hgy) rfl)
    have b2:=fE ((ad.out.trans hgy).setRow (p:=⟨g9,1,V⟩) (N4 b1.out) (F I (sa-s1)))
    have aZ:=fE ((ao.out.fO hgy).fU ((fJ.refl [g9] _).setCell (p:=⟨g9,1,V⟩) (by simp) (F I (sa-s1))) (fun b hb hm=>by simp only[Lr] at hm;exact aw (hm ▸ hb)))
    go_upto_region 17 with(fail)
    clear o1 ta t1 of ol ac ad ao
    have eb:=ap.out
    have hgY:=b2.out
    have hchY:=aZ.out
    clear ap b2 aZ
    generalize MH wy ⟨g9,1,V⟩ (F I (sa-s1))=Y at eb hgY hchY |-
    obtain⟨va,ak⟩:∃ v,sa-s1=v:=⟨_,rfl⟩
    rw[ak] at eb hvI
    rw[ak] at aR
    have HPL:=fE aR
    clear ak aR
    obtain⟨o0,o1,o2,o3,o4,o5,o6,of,ol⟩:=mr eb
    have tk:=za hgY tk
    have ah:gt<Y.heap.size:=Li ai hgY.size
    have aN:=am.out.fO hgY
    have hPY:=al.out.fO hgY
    clear eb
    go_region_held3 (fun w'=>Lg w' ⟨g9,0,V⟩=H (F I x.Op.Code)/\Lg w' ⟨g9,1,V⟩=H (F I va)/\Lg w' ⟨g9,2,V⟩=H (F I x.fN)/\Lg w' ⟨g9,3,V⟩=H (X x.Start)/\Lg w' ⟨g9,4,V⟩=H (J A8 x.fH.length c8)/\Lg w' ⟨g9,5,V⟩=H (F I x.fK)/\Lg w' ⟨g9,6,V⟩=H (X x.fI)/\Lg w' ⟨gt,k,V⟩=H (F I sk)) ((repeat' apply Ls) <;> (first | ((repeat (first | assumption | with_reducible refine zC ?_ _ _ | with_reducible refine zo ?_ _ | with_reducible refine zb ?_));done) | (simp[go_sem];done))) (first | (refine zO (L:=rs.length+1) rfl (.tmp 72) (.tmp 79) vg (tt 8) (aN.fO gF) (W1:=w) (B:=0) (ec:=[F I sk,F I x.Op.Code,F I va,F I x.fN,X x.Start,J A8 x.fH.length c8,F I x.fK,X x.fI]) (y:=[F I sk,F I x.Op.Code,F I va,F I x.fN,X x.Start,J A8 x.fH.length c8,F I x.fK,X x.fI]) ⟨rfl,rfl,by intro u hu;simp only[LU,MX,Ox] at hu;rcases hu with rfl | rfl | rfl | rfl | rfl | rfl | rfl | rfl <;> rfl⟩ rfl rfl rfl (by intro j u hu;simpa[go_sem] using hu) rfl (by omega) (by omega) ?_;intro A6 c6 W6 S6 hon hH6 hS6;have o0:=(hon.cell (g:=g9) (Li ol (fF.size gF)) a0 _).trans (za gF o0);have o1:=(hon.cell (g:=g9) (Li ol (fF.size gF)) a0 _).trans (za gF o1);have o2:=(hon.cell (g:=g9) (Li ol (fF.size gF)) a0 _).trans (za gF o2);have o3:=(hon.cell (g:=g9) (Li ol (fF.size gF)) a0 _).trans (za gF o3);have o4:=(hon.cell (g:=g9) (Li ol (fF.size gF)) a0 _).trans (za gF o4);have o5:=(hon.cell (g:=g9) (Li ol (fF.size gF)) a0 _).trans (za gF o5);have o6:=(hon.cell (g:=g9) (Li ol (fF.size gF)) a0 _).trans (za gF o6);have tk:=(hon.cell (g:=gt) (Li ah (fF.size gF)) ay _).trans (za gF tk)))
    all_goals go_wp2_with(fail)
    all_goals go_roundw
    case measure=>exact gL
    case rel=>
     exact rE
  ·have b5:(x.Op.Code == 10)=U:=Lk.2 (fun h=>hj (.inl h))
   have ar:(x.Op.Code == 11)=U:=Lk.2 (fun h=>hj (.inr h));have HPL:=fE (Bo hj aA);obtain⟨va,ak⟩:∃ v,x.Op.Arg=v:=⟨_,rfl⟩
   have hvI:fV va:=by rw[<-ak];exact aY
   clear hj aA;go_upto_region 17 with(fail);clear o0 o1 o2 o3 o4 o5 o6 of ol;have eb:=ac.out;have hgY:=ad.out;have hchY:=ao.out;rw[ak] at eb HPL;obtain⟨Y,hY⟩:∃ Y,Y1=Y:=⟨_,rfl⟩
   rw[hY] at eb hgY hchY |-;clear ac ad ao ak hY;obtain⟨o0,o1,o2,o3,o4,o5,o6,of,ol⟩:=mr eb;have tk:=za hgY tk;have ah:gt<Y.heap.size:=Li ai hgY.size;have aN:=am.out.fO hgY;have hPY:=al.out.fO hgY;clear eb;go_region_held3 (fun w'=>Lg w' ⟨g9,0,V⟩=H (F I x.Op.Code)/\Lg w' ⟨g9,1,V⟩=H (F I va)/\Lg w' ⟨g9,2,V⟩=H (F I x.fN)/\Lg w' ⟨g9,3,V⟩=H (X x.Start)/\Lg w' ⟨g9,4,V⟩=H (J A8 x.fH.length c8)/\Lg w' ⟨g9,5,V⟩=H (F I x.fK)/\Lg w' ⟨g9,6,V⟩=H (X x.fI)/\Lg w' ⟨gt,k,V⟩=H (F I sk)) ((repeat' apply Ls) <;> (first | ((repeat (first | assumption | with_reducible refine zC ?_ _ _ | with_reducible refine zo ?_ _ | with_reducible refine zb ?_));done) | (simp[go_sem];done))) (first | (refine zO (L:=rs.length+1) rfl (.tmp 72) (.tmp 79) vg (tt 8) (aN.fO gF) (W1:=w) (B:=0) (ec:=[F I sk,F I x.Op.Code,F I va,F I x.fN,X x.Start,J A8 x.fH.length c8,F I x.fK,X x.fI]) (y:=[F I sk,F I x.Op.Code,F I va,F I x.fN,X x.Start,J A8 x.fH.length c8,F I x.fK,X x.fI]) ⟨rfl,rfl,by intro u hu;simp only[LU,MX,Ox] at hu;rcases hu with rfl | rfl | rfl | rfl | rfl | rfl | rfl | rfl <;> rfl⟩ rfl rfl rfl (by intro j u hu;simpa[go_sem] using hu) rfl (by omega) (by omega) ?_;intro A6 c6 W6 S6 hon hH6 hS6;have o0:=(hon.cell (g:=g9) (Li ol (fF.size gF)) a0 _).trans (za gF o0);have o1:=(hon.cell (g:=g9) (Li ol (fF.size gF)) a0 _).trans (za gF o1);have o2:=(hon.cell (g:=g9) (Li ol (fF.size gF)) a0 _).trans (za gF o2);have o3:=(hon.cell (g:=g9) (Li ol (fF.size gF)) a0 _).trans (za gF o3);have o4:=(hon.cell (g:=g9) (Li ol (fF.size gF)) a0 _).trans (za gF o4);have o5:=(hon.cell (g:=g9) (Li ol (fF.size gF)) a0 _).trans (za gF o5);have o6:=(hon.cell (g:=g9) (Li ol (fF.size gF)) a0 _).trans (za gF o6);have tk:=(hon.cell (g:=gt) (Li ah (fF.size gF)) ay _).trans (za gF tk)))
   all_goals go_wp2_with(fail)
   all_goals go_roundw
   case measure=>exact gL
   case rel=>
    exact rE
 ·obtain rfl:k=its.length:=by omega
  have aX:¬ ((its.length:Int)<(its.length:Int)):=by omega
  have bn:Hid (acc=jD its a):=fE (by rw[<-hA4.out,LY];simp[nJ]);go_wp2_with(fail);exact Ln (v:=J A7 rs.length c7) (by simp[Ly,results194,go_sem]) rfl (show py _ w _ _ from by rw[<-bn.out];exact⟨A7,c7,rs,S7,by rw[al.out.1],by rw[<-al.out.1];exact am.out,al.out,fun b hb=>(hS7.out b hb).elim (fun h=>by simp only[Lr] at h;omega) (fun h=>by omega),a2⟩)
theorem GH (l:Q fS)(a:Int):(jR l a)[0]?=H a:=by cases l <;> rfl
theorem B4:∀(l:Q fS)(a:Int)(j:Nat)(x:fS),l[j]?=H x->∃ v,(jR l a)[j]?=H v/\(jR l a)[j+1]?=H (v+zA x.Op.Code)
 | [],_,_,_,h=>by simp at h
 | y::r,a,0,x,h=>by
  simp only[Mf,Mg] at h;subst h;refine⟨a,rfl,?_⟩;show (jR r (a+zA y.Op.Code))[0]?=_;exact GH _ _
 | y::r,a,j+1,x,h=>by
  simp only[MV] at h;obtain⟨v,h1,h2⟩:=B4 r (a+zA y.Op.Code) j x h;exact⟨v,h1,h2⟩
theorem C8:∀(l:Q fS)(a:Int),(jR l a)[l.length]?=H (kF l a)
 | [],_=>rfl
 | y::r,a=>by
  show (jR r (a+zA y.Op.Code))[r.length]?=H (kF r (a+zA y.Op.Code));exact C8 r _
theorem G2 (h:its.length=n+1):∃ x,(jD its a)[n]?=H x/\x.Offset+zA x.Item.Op.Code=kF its a:=by
 obtain⟨y,hy⟩:∃ y,its[n]?=H y:=⟨_,Lo (by omega)⟩
 obtain⟨v,h1,h2⟩:=B4 its a n y hy;have h3:=C8 its a;rw[h,h2] at h3;injection h3 with h3
 refine⟨lf (jR its a) n y,?_,?_⟩
 ·unfold jD
  rw[tR,hy,Mb];rfl
 ·rw[(ti (jR its a) n y).2,<-h3]
  have:(lf (jR its a) n y).Offset=v:=by
   unfold lf;simp only[Mp,h1,Option.getD_some]
  rw[this]
theorem BT (its:Q fS)(a:Int):(jD its a).length=its.length:=by unfold jD;exact xE _ _ _
def kE (p:Q fG)(b:gC)(image:Int):Nat->Nat->Int->Q (Nat × Q fQ)
 | 0,_,_=>[]
 | n+1,f,a=>if me b f image=M then (f,jD (jY p b f) a)::kE p b image n (f+1) (kF (jY p b f) a) else kE p b image n (f+1) a
theorem xR (p:Q fG)(b:gC)(image:Int):∀(n f:Nat)(a:Int),(kE p b image n f a).flatMap Prod.snd=l0 p b image n f a
 | 0,_,_=>rfl
 | n+1,f,a=>by
  unfold kE l0;split
  ·rw[Od,xR p b image n]
  ·exact xR p b image n _ _
theorem Il (h:f<n)(hi:me b f image=M):kE p b image (n-f) f a=(f,jD (jY p b f) a)::kE p b image (n-(f+1)) (f+1) (kF (jY p b f) a):=by
 rw[show n-f=n-(f+1)+1 from by omega];show (if _ then _ else _)=_;rw[Lu hi]
theorem JD (h:f<n)(hi:me b f image=U):kE p b image (n-f) f a=kE p b image (n-(f+1)) (f+1) a:=by
 exact sZ
def kM (lo hi:Nat)(W:N)(hd:Q LA)(xs:Q fQ):Prop:=∃ A c rs S,hd = [J A xs.length c]/\Has ((jK 8).sl 133) W [J A xs.length c] rs S/\gQ lo W S rs xs/\(∀ b∈S,lo<=b/\b<hi)/\
 ∀(i:Nat) (r:Q LA) (x:fQ),rs[i]?=H r->xs[i]?=H x->∃ A0 c0 Sc,r = [F I x.Offset,F I x.Item.Op.Code,F I x.Item.Op.Arg,F I x.Item.fN,X x.Item.Start,J A0 x.Item.fH.length c0,F I x.Item.fK,X x.Item.fI]/\
  (zF.sl 3).O W [J A0 x.Item.fH.length c0] x.Item.fH Sc/\(∀ b∈Sc,b∉S/\lo<=b/\b<hi)/\fV x.Offset/\fV x.Item.Op.Code/\fV x.Item.Op.Arg/\fV x.Item.fN/\fV x.Item.fK
theorem kM.of {w':N} {rs:Q (Q LA)} {S:Q Nat} (h:Has ((jK 8).sl 133) w' [J A xs.length c] rs S)(hP:gQ w.heap.size w' S rs xs)(hS:∀ b∈S,w.heap.size<=b):kM w.heap.size w'.heap.size w' [J A xs.length c] xs:=by
 refine⟨A,c,rs,S,rfl,h,hP,fun b hb=>⟨hS b hb,h.lt b hb⟩,fun i r x h1 h2=>?_⟩;obtain⟨A0,c0,Sc,k1,k2,k3,k4⟩:=hP.2 i r x h1 h2;exact⟨A0,c0,Sc,k1,k2,fun b hb=>⟨(k3 b hb).1,(k3 b hb).2,Ty.jB _ k2 b hb⟩,k4⟩
theorem kM.fU {lo hi:Nat}{W W':N}{hd:Q LA}{xs:Q fQ}{L:Q Nat}(h:kM lo hi W hd xs)(ho:fJ L W W')(hL:∀ b∈L,b<lo∨hi<=b):kM lo hi W' hd xs:=by
 obtain⟨A,c,rs,S,h1,h2,h3,h4,h5⟩:=h;have hk:∀(Sc:Q Nat),(∀ b∈Sc,lo<=b/\b<hi)->∀ b∈Sc,b∉L:=fun Sc hs b hb hm=>by have:=hs b hb;have:=hL b hm;omega
 have a0:∀(i:Nat) (r:Q LA) (x:fQ),rs[i]?=H r->xs[i]?=H x->∃ A0 c0 Sc,r = [F I x.Offset,F I x.Item.Op.Code,F I x.Item.Op.Arg,F I x.Item.fN,X x.Item.Start,J A0 x.Item.fH.length c0,F I x.Item.fK,X x.Item.fI]/\
  (zF.sl 3).O W' [J A0 x.Item.fH.length c0] x.Item.fH Sc/\(∀ b∈Sc,b∉S/\lo<=b/\b<hi)/\fV x.Offset/\fV x.Item.Op.Code/\fV x.Item.Op.Arg/\fV x.Item.fN/\fV x.Item.fK:=fun i r x k1 k2=>by
  obtain⟨A0,c0,Sc,g1,g2,g3,g4⟩:=h5 i r x k1 k2
  exact⟨A0,c0,Sc,g1,Ty.hJ _ g2 (fun b hb=>ho.block b (Ty.jB _ g2 b hb) (hk Sc (fun b hb=>(g3 b hb).2) b hb)),g3,g4⟩
 refine⟨A,c,rs,S,h1,h2.fU ho (hk S h4),⟨h3.1,fun i r x k1 k2=>?_⟩,h4,a0⟩;obtain⟨A0,c0,Sc,g1,g2,g3,g4⟩:=a0 i r x k1 k2;exact⟨A0,c0,Sc,g1,g2,fun b hb=>⟨(g3 b hb).1,(g3 b hb).2.1⟩,g4⟩
theorem kM.fO {hi:Nat} (h:kM lo hi W hd xs)(hg:fF W W'):kM lo hi W' hd xs:=h.fU (hg.only []) (by simp)
theorem kM.read {lo hi:Nat}{W:N}{hd:Q LA}{xs:Q fQ}(h:kM lo hi W hd xs):∃ A c,hd = [J A xs.length c]/\(oH.sl 133).R W W.heap.size [J A xs.length c] xs:=by
 obtain⟨A,c,rs,S,h1,h2,h3,_⟩:=h;exact⟨A,c,h1,h3.read h2 rfl⟩
def iV (lo:Nat)(W:N)(L:Q Nat)(hs:Q (Q LA))(xss:Q (Q fQ)):Prop:=hs.length=xss.length/\∀(i:Nat)(h:Q LA)(xs:Q fQ),hs[i]?=H h->xss[i]?=H xs->∃ l u,lo<=l/\u<=W.heap.size/\kM l u W h xs/\∀ b∈L,b<l∨u<=b
theorem iV.nil (lo:Nat)(W:N)(L:Q Nat):iV lo W L [] []:=⟨rfl,fun i h xs h1=>by simp at h1⟩
theorem iV.fU {lo:Nat}{W W':N}{L L':Q Nat}{hs:Q (Q LA)}{xss:Q (Q fQ)}(h:iV lo W L hs xss)(ho:fJ L W W')(hL:∀ b∈L',b∈L∨W.heap.size<=b):iV lo W' L' hs xss:=by
 refine⟨h.1,fun i hd xs h1 h2=>?_⟩;obtain⟨l,u,k1,k2,k3,k4⟩:=h.2 i hd xs h1 h2;have a0:=ho.size;exact⟨l,u,k1,by omega,k3.fU ho k4,fun b hb=>(hL b hb).elim (k4 b) (fun h=>.inr (by omega))⟩
theorem iV.fO (h:iV lo W L hs xss)(hg:fF W W'):iV lo W' L hs xss:=h.fU (hg.only _) (fun _ hb=>.inl hb)
theorem iV.snoc {l u:Nat} (h:iV lo W L hs xss)(hr:kM l u W hd xs)(h1:lo<=l)(h2:u<=W.heap.size)(h3:∀ b∈L,b<l∨u<=b):iV lo W L (hs++[hd]) (xss++[xs]):=by
 refine⟨by simp[h.1],fun i r' x' k1 k2=>?_⟩;by_cases hi:i<hs.length
 ·rw[Md hi] at k1
  rw[Md (by rw[<-h.1];exact hi)] at k2;exact h.2 i r' x' k1 k2
 ·have hl:=(Lh.1 k1).1
  simp only[Lj,LJ,Mk] at hl;have a0:i=hs.length:=by omega
  subst a0;rw[LV (Lz _),Mq] at k1;rw[h.1,LV (Lz _),Mq] at k2;simp only[Mf,Mg] at k1 k2;subst k1;subst k2;exact⟨l,u,h1,h2,hr,h3⟩
theorem mX (E:gd)(m:fW)(code arg line:Int)(chain:Q Int):jt m.items (zv E m code arg line chain).items:=.app _ _
theorem BI (E:gd)(x:fL)(k:Int)(chain:Q Int):∀(n:Nat)(m:fW),jt m.items (nP E x k chain n m).items
 | 0,m=>.refl _
 | n+1,m=>jt.trans (b:=(jC E m x n k chain).items) (mX E m _ _ k chain) (BI E x k chain n (jC E m x n k chain))
theorem Cz (E:gd)(x:fL)(k:Int)(chain:Q Int):∀(n i:Nat)(m:fW),jt m.items (oS E x k chain n i m).items
 | 0,_,m=>.refl _
 | n+1,i,m=>jt.trans (b:=(jC E (zZ E m 0 k chain) x i k chain).items) (jt.trans (b:=(zZ E m 0 k chain).items) (mX E m _ _ k chain) (mX E (zZ E m 0 k chain) _ _ k chain)) (Cz E x k chain n (i+1) (jC E (zZ E m 0 k chain) x i k chain))
theorem Ie (E:gd)(g k:Int)(s:fL)(m:fW):jt m.items (nG E g k s m).items:=by
 unfold nG;simp only;have h:=(BI E (kS E g k s) k s.chain (zU E.p g).length (m.iY (max m.gK (m9 E s+((kS E g k s).locals.length:Int))))).trans (Cz E (kS E g k s) k s.chain ((kS E g k s).locals.length-(zU E.p g).length) (zU E.p g).length _);split
 ·exact jt.trans h (mX _ _ _ _ _ _)
 ·exact h
theorem Iy {E:gd} {rep:Int->fW->fW} {k:Int} (hr:∀ g m,jt m.items (rep g m).items)(t:gu)(m:fW):jt m.items (kL E rep fs s k t m).items:=by
 unfold kL;split
 ·exact mX _ _ _ _ _ _
 ·split
  ·exact mX _ _ _ _ _ _
  ·split
   ·split
    ·exact hr _ _
    ·exact mX _ _ _ _ _ _
   ·exact mX _ _ _ _ _ _
theorem yD {E:gd}{rep:Int->fW->fW}{fs:Q Int}{s:fL}{k:Int}(hr:∀ g m,jt m.items (rep g m).items)(xs:Q gu):∀(f n a:Nat)(m:fW),jt m.items (zip E rep fs s k xs f n a m).1.items
 | 0,_,_,m=>.refl _
 | _+1,0,_,m=>.refl _
 | f+1,n+1,a,m=>by
  unfold zip;split
  ·exact .refl _
  ·exact((yD hr xs f _ _ m).trans (Iy hr _ _)).trans (yD hr xs f _ _ _)
theorem Cx (E:gd)(s:fL)(k:Int)(b:Bool)(L:iN):jt L.m.items (zR E s k b L).m.items:=by
 unfold zR;split
 ·split <;> exact mX _ _ _ _ _ _
 ·split
  ·exact .refl _
  ·exact mX _ _ _ _ _ _
theorem Dl (E:gd)(k:Int)(chain fR:Q Int):∀(n i:Nat)(m:fW),jt m.items (lK E k chain fR n i m).items
 | 0,_,m=>.refl _
 | n+1,i,m=>by
  show jt m.items (lK E k chain fR n (i+1) _).items;refine jt.trans ?_ (Dl E k chain fR n (i+1) _);split
  ·exact mX _ _ _ _ _ _
  ·exact .refl _
theorem Ig {E:gd} {rep:Int->fW->fW} (hr:∀ g m,jt m.items (rep g m).items)(e k:Nat)(x:fG)(L:iN):jt L.m.items (je E rep fs s e k x L).m.items:=by
 unfold je;simp only;have h0:jt L.m.items (zV L.m L.fT k).items:=vV _ _ _ _;have h1:jt L.m.items (nT E rep fs s k x.Expr (zV L.m L.fT k).begun).items:=jt.trans (b:=(zV L.m L.fT k).items) h0 (show jt (zV L.m L.fT k).begun.items (nT E rep fs s k x.Expr (zV L.m L.fT k).begun).items from yD hr x.Expr _ _ _ (zV L.m L.fT k).begun);split
 ·exact(h0.trans (mX _ _ _ _ _ _)).trans (vV _ _ _ _)
 ·split
  ·split
   ·exact jt.trans (b:=(zZ E (zV L.m L.fT k) 0 k s.chain).items) (h0.trans (mX _ _ _ _ _ _)) (Cx E s k M (L.wm (zZ E (zV L.m L.fT k) 0 k s.chain)))
   ·exact h0.trans (Dl _ _ _ _ _ _ _)
  ·split
   ·exact h1.trans (mX _ _ _ _ _ _)
   ·split
    ·exact h1.trans (mX _ _ _ _ _ _)
    ·split
     ·exact h1.trans (Cx E s k U ⟨_,_,_,_⟩)
     ·exact h1.trans (mX _ _ _ _ _ _)
theorem BC {E:gd}{rep:Int->Int->fW->fW}{fs:Q Int}{s:fL}(hr:∀ k g m,jt m.items (rep k g m).items)(e:Nat):∀(l:Q fG)(n k:Nat)(L:iN),jt L.m.items (nA E rep fs s e l n k L).m.items
 | [],0,_,_=>.refl _
 | _::_,0,_,_=>.refl _
 | [],_+1,_,_=>.refl _
 | x::r,n+1,k,L=>(Ig (hr k) e k x L).trans (BC hr e r n (k+1) _)
theorem Cy (E:gd):∀(d:Nat)(fs:Q Int)(s:fL)(m:fW),jt m.items (zH E d fs s m).1.items
 | 0,_,_,m=>.refl _
 | d+1,fs,s,m=>by
  show jt m.items (qv E (fun fs s k g m=>zE E (zH E d) fs k s g m) fs s m).1.items;unfold qv;refine BC (fun k g m=>?_) _ _ _ _ ⟨m,_,_,_⟩;unfold zE;exact((Ie E g k s m).trans (Cy E d _ _ _)).trans (BJ _ _ _)
theorem By {words:Int} (hg:(zk p)[f]?=H g):∃ x,(kH p b f words).1[0]?=H x/\x.fN=g:=by
 rw[xH hg];obtain⟨y,h1,h2⟩:=Cy (mE p b f words g) 4 [g] (lg p g) (lE p b f words g) _ rfl;exact⟨y,h1,h2⟩
theorem FI (hp:zs p=M)(hg:(zk p)[f]?=H g):∃ x,(jY p b f)[0]?=H x/\x.fN=g:=by
 unfold jY;simp only;split
 ·have a0:mh p=p.map zI:=by unfold mh;rw[Lu hp]
  rw[a0];exact By (by rw[tS];exact hg)
 ·exact By hg
def oQ (p:Q fG)(c:D × Q gk)(y:Nat × Q fQ):D × Q gk:=(c.1++lh (l7 y.2),c.2++[⟨rj p ((zk p).getD y.1 0),c.1.size,(lh (l7 y.2)).size⟩])
theorem Jd {l:Q fS} (hI:iJ p l)(hn:l.length<=2400)(hg:(zk p)[f]?=H g)(hl:∃ x,l[0]?=H x/\x.fN=g)(c:D)(ss:Q gk) :
  (jD l c.size).foldl (ov p) ⟨c,ss⟩=⟨(oQ p (c,ss) (f,jD l c.size)).1,(oQ p (c,ss) (f,jD l c.size)).2⟩/\((oQ p (c,ss) (f,jD l c.size)).1.size:Int)=kF l c.size:=by
 have h1:∀ x∈l7 (jD l c.size),jX x=M:=by
  intro x hx;unfold l7 at hx;simp only[List.mem_map] at hx;obtain⟨y,hy,rfl⟩:=hx;obtain⟨j,hj⟩:=NZ hy;exact(JS hI (by omega) hj).1
 constructor
 ·obtain⟨x,hx,a2⟩:=hl
  have a0:∀(j:Nat) (y:fQ),(jD l c.size)[j]?=H y->(j=0↔oO p y):=fun j y hy=>by
   obtain⟨z,hz,rfl⟩:=ya hy;have:=(hI j z hz).first;unfold oO;rw[(ti _ _ _).1,(ti _ _ _).2];exact this
  have h0:(jD l c.size)[0]?=H (lf (jR l c.size) 0 x):=by
   unfold jD;rw[tR,Mb,hx];rfl
  unfold oQ;cases hp:jD l c.size with
  | nil=>rw[hp] at h0;cases h0
  | cons u r=>
   rw[hp] at h0 a0;simp only[Mf,Mg] at h0
   have ho:u.Offset=(c.size:Int):=by
    rw[h0];show (jR l c.size).getD 0 0=_;cases l <;> rfl
   have a1:u.Item.fN=g:=by rw[h0,(ti _ _ _).1];exact a2
   rw[Kn p u r c ss ((a0 0 u rfl).1 rfl) ho (fun y hy hf=>by
    obtain⟨j,hj⟩:=NZ hy;have:=(a0 (j+1) y (by rw[MV];exact hj)).2 hf
    omega)]
   rw[a1,Mp,hg];rfl
 ·show ((c++lh (l7 (jD l c.size))).size:Int)=_
  rw[Na,DK];have h2:=Cf _ h1;rw[Gx] at h2;omega
theorem Ar {p:Q fG}{b:gC}{image:Int}(hp:zs p=M)(hb:jG b=M):∀(n f:Nat)(c:D)(ss:Q gk),f+n<=(zk p).length->
  (l0 p b image n f c.size).foldl (ov p) ⟨c,ss⟩=⟨((kE p b image n f c.size).foldl (oQ p) (c,ss)).1,((kE p b image n f c.size).foldl (oQ p) (c,ss)).2⟩
 | 0,_,_,_,_=>rfl
 | n+1,f,c,ss,h=>by
  simp only[l0,kE];split
  ·obtain⟨g,hg⟩:∃ g,(zk p)[f]?=H g:=⟨_,Lo (by omega)⟩
   obtain⟨h1,_,h3⟩:=uC (f:=f) hp hb (by omega);obtain⟨e1,e2⟩:=Jd (f:=f) h1 h3 hg (FI hp hg) c ss;rw[Ov,e1,<-e2,NC];exact Ar hp hb n (f+1) _ _ (by omega)
  ·exact Ar hp hb n (f+1) c ss (by omega)
end Go.Proofs.YtiihkapmggfjkaaGreat
