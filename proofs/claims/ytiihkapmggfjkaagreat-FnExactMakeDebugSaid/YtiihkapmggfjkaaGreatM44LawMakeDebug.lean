/-
  PART.
-/
import Derived.Test.YtiihkapmggfjkaaGreatM43LawMakeDebug
set_option linter.unusedVariables false
set_option linter.unusedSimpArgs false
set_option maxRecDepth 100000
set_option maxHeartbeats 8000000
namespace Go.Proofs.YtiihkapmggfjkaaGreat
open Value renaming slice->J,int->F,bool->X,string->G
open IntKind renaming i64->I,wrap->Ll
open Option renaming none->V,some->H
open Obj renaming cells->C
open Bool renaming false->U,true->M
open Go renaming World->N,results->Ly,Calls->LR,Addr->Mh,Value->LA,yielded->NA
open World renaming cell?->Lg,frozen?->LD
open RowKit renaming intOf->Ml
open Region renaming wanted->MI,ready->MK,Mode->Nz,noSelect->ND,free->Oq
open Tryz
open Go.RowKit
variable {A:K Mh}{c m:Nat}{q:gk}
def nU (p:Q fG)(i:jL)(x:fQ):Q gk:=if x.Item.Op.Code=13∨x.Item.Op.Code=15/\zG p x.Item.fN=0 then i.fM++[⟨rj p x.Item.fN,x.Offset,0⟩] else i.fM
theorem xS (p:Q fG)(i:jL)(x:fQ):ov p i x=⟨i.Code++jE x.Item.Op,qt (nU p i x) ((i.Code++jE x.Item.Op).size:Nat)⟩:=rfl
theorem G4 {l:Q gk} {n:Int} (hl:l.length=m+1)(hq:l[m]?=H q):qt l n=l.set m { q with il:=n-q.Start }:=by
 have h:l.getLast?=H q:=by rw[Oj,hl];exact hq
 unfold qt;rw[h];simp only;apply Nr;intro j;rw[NY];by_cases hj:m=j
 ·subst hj
  rw[Lu rfl,Lu (by omega),LV (by simp;omega)];simp[hl]
 ·rw[Lt hj]
  exact sv
theorem xA {p:Q fG}{xs:Q fQ}(ha:∀ x∈xs,pa p x):∀ k,k<=xs.length->∀ s∈(kW p xs k).fM,0<=s.Start/\s.Start<=100000
 | 0,_,s,hs=>by cases hs
 | k+1,h,s,hs=>by
  have hx:xs[k]?=H xs[k]:=Lo (by omega);rw[yu hx,xS] at hs
  have hk:∀ s∈nU p (kW p xs k) xs[k],0<=s.Start/\s.Start<=100000:=by
   intro s hs;unfold nU at hs;split at hs
   ·rcases LG.1 hs with hs | hs
    ·exact xA ha k (by omega) s hs
    ·rw[Lr] at hs
     subst hs;exact(ha _ (List.getElem_mem _)).off
   ·exact xA ha k (by omega) s hs
  simp only at hs;unfold qt at hs;split at hs
  ·exact hk s hs
  ·rename_i q hq
   rcases LG.1 hs with hs | hs
   ·exact hk s ((List.dropLast_sublist _).subset hs)
   ·rw[Lr] at hs
    subst hs;exact hk q (List.mem_of_getLast? hq)
theorem Em {e:TypeId} {W:N} {n:Nat} {xs:Q gk} {S:Q Nat} (h:Has (jU.sl e) W [J A n c] xs S)(hq:xs[m]?=H q):∃ g,A=H ⟨g,0,V⟩/\g∈S/\g<W.heap.size/\(∀ j,LD W ⟨g,j,V⟩=U)/\Lg W ⟨g,m*3+1,V⟩=H (F I q.Start)/\Lg W ⟨g,m*3+2,V⟩=H (F I q.il)/\
  ∀ v,fV v->Has (jU.sl e) (W.setCell ⟨g,m*3+2,V⟩ (F I v)) [J A n c] (xs.set m { q with il:=v }) S/\fJ S W (W.setCell ⟨g,m*3+2,V⟩ (F I v)):=by
 obtain⟨g,ec,Sc,rfl,a1,a2,_,_,_,hO,hf,hc,a0,_⟩:=mN h.1 h.2 hq;obtain⟨rfl,rfl,b0,b1,b2⟩:=Dd hO;refine⟨g,rfl,a1,a2,hf,hc 1 _ rfl,hc 2 _ rfl,fun v hv=>?_⟩;have hp:=a0 2 (F I v) { q with il:=v } (by decide) rfl (GM (x:={ q with il:=v }) b0 b1 hv);exact⟨⟨hp.1,h.2⟩,hp.2⟩
theorem wA (p:Q fG)(b:gC)(image:Int):lD p b image=kW p (zK p b image) (zK p b image).length:=by
 unfold lD kW;rw[MJ]
theorem zn7 {p:Q fG} {b:gC} {image:Int} {w:N} (hx:(zM.sl 87).R w w.heap.size [J A p.length c] p)(hll:p.length<=1099511627776)(hs:∀ x∈p,x.fP.length<=1099511627776/\x.Expr.length<=1099511627776) :
  LR prog 35 #[J A p.length c,.agg #[F I b.Frames,F I b.Inline,X b.Fold,X b.Split],F I image] w (vm (lD p b image) w):=by
 obtain⟨af,aX,ag⟩:=vO p b image;have bb:=fE (wA p b image);have aO:=fun(W:N) (h:(zM.sl 87).R W W.heap.size [J A p.length c] p)=>zkj (w:=W) (A:=A) (c:=c) (b:=b) (image:=image) h hll hs;generalize zK p b image=xs at af aX ag bb aO;have aL:=fE aO;have ak:=fE af;have al:=fE ag;clear aO af ag;have ez:(((w.alloc (C #[F I b.Frames,F I b.Inline,X b.Fold,X b.Split] 35)).alloc (C #[G emp,J V 0 0] 58)).alloc (C #[G emp,J V 0 0] 58)).heap[w.heap.size+1+1]?=H (C #[G emp,J V 0 0] 58 (0,0)):=by have h:=Lp ((w.alloc (C #[F I b.Frames,F I b.Inline,X b.Fold,X b.Split] 35)).alloc (C #[G emp,J V 0 0] 58)) (C #[G emp,J V 0 0] 58);rw[Mo,Mo] at h;exact h
 have be:(((w.alloc (C #[F I b.Frames,F I b.Inline,X b.Fold,X b.Split] 35)).alloc (C #[G emp,J V 0 0] 58)).alloc (C #[G emp,J V 0 0] 58)).heap[w.heap.size+1]?=H (C #[G emp,J V 0 0] 58 (0,0)):=by have h:=Lp (w.alloc (C #[F I b.Frames,F I b.Inline,X b.Fold,X b.Split] 35)) (C #[G emp,J V 0 0] 58);rw[Mo] at h;exact zj h ((fF.refl _).alloc _)
 have EZ:=fE ez;have bn:=fE be;clear ez be;go_enter func35,ntmps35;go_wp2_with(first | (go_at_call 34;(with_reducible refine(aL.out _ (Ty.up _ hx gF)).mono ?_);rintro e w2 ⟨A8,c8,rs,S8,rfl,bi,aE,ae,av⟩));obtain⟨g7,a5⟩:∃ g,w.heap.size+1+1=g:=⟨_,rfl⟩
 obtain⟨g6,ai⟩:∃ g,w.heap.size+1=g:=⟨_,rfl⟩
 simp only[Mo] at aE ae;rw[a5] at aE ae;have az:fF w w2:=fF.trans (b:=_) gF av;have a4:=zj EZ.out av;have a9:=zj bn.out av;rw[a5] at a4;rw[ai] at a9;rw[a5,ai];have bl:=av.size;simp only[Mo] at bl;rw[a5] at bl;have ac:=fE az;have b8:=fE a9;have bc:=fE aE;have aM:=fE bi;have bd:=fE ae;have bB:w.heap.size<g7:=by omega
 have aT:g6≠g7:=by omega
 have bA:g6<g7:=by omega
 have au:w.heap.size<=g6:=by omega
 clear az a9 aE bi ae av a5 ai;go_loopw [9] (fun z9 wr=>∃(k:Nat) (A:K Mh) (c1:Nat) (S1:Q Nat),z9=F I k/\k<=xs.length/\Hid (wr.heap[g7]?=H (C #[G (kW p xs k).Code,J A (kW p xs k).fM.length c1] 58 (0,0)))/\Hid (Has (jU.sl 110) wr [J A (kW p xs k).fM.length c1] (kW p xs k).fM S1)/\Hid (∀ b∈S1,w2.heap.size<=b)/\Hid (fJ [g7] w2 wr)) (fun z9 _=>xs.length-(Ml z9).toNat)
 case atStart=>exact⟨0,V,0,[],rfl,Lv _,fE a4,fE (Has.nil _ _ _),fE (fun b hb=>by cases hb),fE (fJ.refl _ _)⟩
 case round=>
 obtain⟨k,A,c1,S1,rfl,hk,a4,hH,a1,hO⟩:=hrel;by_cases hkl:k<xs.length
 ·have bG:(k:Int)<(xs.length:Int):=by omega
  have c3:Ll I ((k:Int)+1)=(k:Int)+1:=iw;have bx:=(bc.out.only hO.out (fun b hb=>by simp only[Lr] at hb;omega)).read (aM.out.fU hO.out (fun b hb hm=>by simp only[Lr] at hm;have:=bd.out b hb;omega)) rfl;obtain⟨g,c6,x,aB,aD,bt,aU,aH,x0,x1,x2,x3,x4,x5,x6,x7,b0,b1,b2,b3,h5,b6⟩:=l2 bx hkl;obtain⟨gq,_,_,ap,aW,bE,_⟩:=mN aM.out.1 aM.out.2 (Lo (l:=rs) (i:=k) (by rw[bc.out.1];exact hkl));subst bt;injection ap with ap
  injection ap with ap hoff
  subst ap;subst hoff;simp only[Mb] at x0 x1 x2 x3 x4 x5 x6 x7;have bC:=bd.out g aW;have bk:=ak.out x (LP aH);obtain⟨bz,bK,bL⟩:=ui al.out k (by omega);obtain⟨_,a3,aj⟩:=ui al.out (k+1) (by omega);have b5:=xA ak.out (k+1) (by omega);have aZ:=yu (p:=p) aH;rw[aZ,xS] at aj b5 a3;simp only[ye] at a3;have aK:=fE (aZ.trans (xS p _ x));have aN:=fE b5;have aC:=fE (aj (by omega));have bU:=fE aH;have am:=fE a3;clear aZ b5 aj a3 aH;generalize kW p xs k=im at a4 hH bz bK bL aK aN aC am;simp only[ye] at aC;have aG:fF w wr:=hO.out.fO ac.out (fun b hb=>by simp only[Lr] at hb;omega);obtain⟨ln,bj⟩:∃ n:Nat,x.Item.fN=(n:Int):=⟨x.Item.fN.toNat,by have:=bk.line;omega⟩
  have aY:ln<p.length:=by have:=bk.line;omega
  have bI:(ln:Int)<(p.length:Int):=by omega
  obtain⟨gp,op,u,bS,bV,bT,bW,hA,bD,hu,u0,v1,_,_,_,bM,_⟩:=jb hx aY;subst hA;have bJ:rj p x.Item.fN=u.Name:=by rw[bj];exact Cr hu
  have bH:zG p x.Item.fN=u.Kind:=by rw[bj];exact lq hu
  have aV:=MM _ _ u0;simp only at aV;go_upto_region 7 with(fail);have eb:(wr.alloc (C #[F I x.Item.Op.Code,F I x.Item.Op.Arg,F I (ln:Int),X x.Item.Start,J aB x.Item.fH.length aD,F I x.Item.fK,X x.Item.fI] 131)).heap[wr.heap.size]?=H (C #[F I x.Item.Op.Code,F I x.Item.Op.Arg,F I (ln:Int),X x.Item.Start,J aB x.Item.fH.length aD,F I x.Item.fK,X x.Item.fI] 131 (0,0)):=Lp _ _;have a2:fF wr (wr.alloc (C #[F I x.Item.Op.Code,F I x.Item.Op.Arg,F I (ln:Int),X x.Item.Start,J aB x.Item.fH.length aD,F I x.Item.fK,X x.Item.fI] 131)):=(fF.refl _).alloc _;obtain⟨a8,ah⟩:∃ g,wr.heap.size=g:=⟨_,rfl⟩
  rw[ah] at eb |-;have bo:=fE ah;have bP:=hO.out.size;have ar:a8≠g7:=by omega
  have ad:a8∉S1:=fun hm=>by have h:=hH.out.lt a8 hm;omega
  have ao:g7∉S1:=fun hm=>by have h:=a1.out g7 hm;omega
  have gS:g∉S1:=fun hm=>by have h:=a1.out g hm;omega
  have bf:gp∉S1:=fun hm=>by have h:=a1.out gp hm;omega
  clear ah;generalize (wr.alloc _)=Y at eb a2 |-;obtain⟨o0,o1,o2,_,_,_,_,_,ol⟩:=mr eb;obtain⟨z0,z1,zf,a0⟩:=lM (zj a4.out a2);have u0:=za (aG.trans a2) u0;have v1:=za (aG.trans a2) v1;have x0:=za a2 x0;have aU:g<Y.heap.size:=by have:=a2.size;omega
  have ax:gp<Y.heap.size:=by have:=a2.size;omega
  have aQ:=fE (hH.out.fO a2);go_cut [45] from 16 to 90 (fun v wx=>v=X (decide (x.Item.Op.Code=13∨x.Item.Op.Code=15/\u.Kind=0))/\Y=wx)
  case first=>
   by_cases h13:x.Item.Op.Code=13
   ·have bq:(x.Item.Op.Code == 13)=M:=LM.2 h13
    have HD:=fE (show M=decide (x.Item.Op.Code=13∨x.Item.Op.Code=15/\u.Kind=0) from(LN (.inl h13)).symm);clear h13;go_wp2_with(fail);go_meet;exact⟨by rw[<-HD.out],rfl⟩
   ·have bq:(x.Item.Op.Code == 13)=U:=Lk.2 h13
    by_cases h15:x.Item.Op.Code=15
    ·have br:(x.Item.Op.Code == 15)=M:=LM.2 h15
     by_cases hk0:u.Kind=0
     ·have ck:(u.Kind == 0)=M:=LM.2 hk0
      have HD:=fE (show M=decide (x.Item.Op.Code=13∨x.Item.Op.Code=15/\u.Kind=0) from(LN (.inr ⟨h15,hk0⟩)).symm);clear h13 h15 hk0;go_wp2_with(fail);go_meet;exact⟨by rw[<-HD.out],rfl⟩
     ·have ck:(u.Kind == 0)=U:=Lk.2 hk0
      have HD:=fE (show U=decide (x.Item.Op.Code=13∨x.Item.Op.Code=15/\u.Kind=0) from(LK (fun h=>h.elim h13 (fun h=>hk0 h.2))).symm);clear h13 h15 hk0;go_wp2_with(fail);go_meet;exact⟨by rw[<-HD.out],rfl⟩
    ·have br:(x.Item.Op.Code == 15)=U:=Lk.2 h15
     have HD:=fE (show U=decide (x.Item.Op.Code=13∨x.Item.Op.Code=15/\u.Kind=0) from(LK (fun h=>h.elim h13 (fun h=>h15 h.1))).symm);clear h13 h15;go_wp2_with(fail);go_meet;exact⟨by rw[<-HD.out],rfl⟩
  obtain⟨rfl,rfl⟩:=hcut;go_upto_if 45 with(fail)
  go_cut [] from 16 to 90 (fun wx=>∃(A:K Mh) (c1:Nat) (S1:Q Nat),wx.heap[g7]?=H (C #[G im.Code,J A (nU p im x).length c1] 58 (0,0))/\Has (jU.sl 110) wx [J A (nU p im x).length c1] (nU p im x) S1/\(∀ b∈S1,w2.heap.size<=b)/\fJ [g7] w2 wx/\wx.heap[a8]?=H (C #[F I x.Item.Op.Code,F I x.Item.Op.Arg,F I (ln:Int),X x.Item.Start,J aB x.Item.fH.length aD,F I x.Item.fK,X x.Item.fI] 131 (0,0)))
  case first=>
   rw[<-bH];by_cases hif:x.Item.Op.Code=13∨x.Item.Op.Code=15/\zG p x.Item.fN=0
   ·rw[LN hif]
    have an:Hid (nU p im x=im.fM++[⟨u.Name,x.Offset,0⟩]):=fE (by unfold nU;rw[Lu hif,bJ]);clear hif;go_upto_region 8 with(fail);refine kC (fun w'=>Lg w' ⟨g7,1,V⟩=H (J A im.fM.length c1)/\Lg w' ⟨a8,2,V⟩=H (F I (ln:Int))/\Lg w' ⟨gp,op+ln*4+1,V⟩=H (G u.Name)/\Lg w' ⟨g,k*8,V⟩=H (F I x.Offset)) 17 (by kernel_rfl) (by((repeat' apply Ls) <;> ((repeat (first | with_reducible assumption | with_reducible refine zC ?_ _ _ | with_reducible refine zo ?_ _ | with_reducible refine zb ?_ | with_reducible refine oL ?_ _));done))) (fun hH=>?_);refine .tq 0 [17] hH ?_;refine .tq 1 [17] hH ?_;refine .tq 2 [17] hH ?_;refine .tq 3 [17] hH ?_;refine .tq 4 [17] hH ?_;refine .tq 5 [17] hH ?_;refine .tq 6 [17] hH ?_;refine .tq 7 [17] hH ?_;refine .tq 8 [17] hH ?_;refine .tq 9 [17] hH ?_;refine .tq 10 [17] hH ?_;refine .tq 11 [17] hH ?_;refine .tq 12 [17] hH ?_;refine .tq 13 [17] hH ?_;refine fX.one (i:=14) (by kernel_rfl) rfl (fun Le hK=>?_);go_simp;refine hK.out _ _ (by((repeat' apply Ls) <;> ((repeat (first | with_reducible assumption | with_reducible refine zC ?_ _ _ | with_reducible refine zo ?_ _ | with_reducible refine zb ?_ | with_reducible refine oL ?_ _));done))) (fun hH14=>?_);clear hK hH
    try simp only[lay]
    refine fX.one (i:=15) (by kernel_rfl) rfl (fun Le hK=>?_);(refine zO (L:=im.fM.length+1) rfl (.tmp 47) (.tmp 60) DI Cu (aQ.out.fO gF) (W1:=w) (B:=0) (ec:=[G u.Name,F I x.Offset,F I 0]) (y:=(⟨u.Name,x.Offset,0⟩:gk)) (B5 (x:=(⟨u.Name,x.Offset,0⟩:gk)) bM b0 ⟨by show (_:Int)<=0;omega,by show (0:Int)<=_;omega⟩) rfl rfl rfl (by intro j u hu;simpa[go_sem] using hu) rfl (by omega) (by omega) ?_;intro A8 c8 W8 S8 ab bu ae;have z1:=(ab.cell (g:=g7) (Li a0 (fF.size gF)) ao _).trans (za gF z1);have o2:=(ab.cell (g:=a8) (Li ol (fF.size gF)) ad _).trans (za gF o2);have v1:=(ab.cell (g:=gp) (Li ax (fF.size gF)) bf _).trans (za gF v1);have x0:=(ab.cell (g:=g) (Li aU (fF.size gF)) gS _).trans (za gF x0);have cb:∀ j,LD W8 ⟨g7,j,V⟩=U:=fun j=>(ab.frozen (g:=g7) (Li a0 (fF.size gF)) ao j).trans ((((show fF Y _ from gF).only []).frozen a0 (by simp) j).trans (zf j));have cc:g7<W8.heap.size:=Li (Li a0 (fF.size gF)) ab.size);refine hK.out _ _ (by((repeat' apply Ls) <;> ((repeat (first | with_reducible assumption | with_reducible refine zC ?_ _ _ | with_reducible refine zo ?_ _ | with_reducible refine zb ?_ | with_reducible refine oL ?_ _));done))) (fun hH1415=>?_);clear hK hH14
    try simp only[lay]
    refine .tq 16 [17] hH1415 ?_;refine fX.last (by kernel_rfl) rfl (by kernel_rfl) (fun Le hK=>?_);go_simp;refine hK.out _ _ ?_;clear hK
    try simp only[lay]
    go_wp2_with(fail);go_meet;have b7:fJ [g7] W8 (W8.setCell ⟨g7,1,V⟩ (J A8 (im.fM.length+1) c8)):=(fJ.refl _ _).setCell (p:=⟨g7,1,V⟩) (by simp) _;have bw:fJ [g7] w2 W8:=hO.out.then ((((a2.trans (show fF Y _ from gF)).only S1).trans ab)) (fun b hb=>.inr (a1.out b hb));have aP:g7∉S8:=fun hm=>(ae g7 hm).elim ao (fun h=>absurd (Li a0 (fF.size gF)) (Nat.not_lt.2 h));refine⟨A8,c8,S8,?_,by rw[an.out,Lj];exact bu.fU b7 (fun b hb hm=>by simp at hm;exact aP (hm ▸ hb)),fun b hb=>(ae b hb).elim (a1.out b) (fun h=>LO (LO hO.out.size (a2.trans (show fF Y _ from gF)).size) h),bw.trans b7,?_⟩
    ·rw[an.out,Lj]
     exact jo (i:=1) (v:=J A8 (im.fM.length+1) c8) (cur':=#[G im.Code,J A8 (im.fM.length+1) c8]) ((ab.block g7 (Li a0 (fF.size gF)) ao).trans (zj (zj a4.out a2) gF)) rfl
    ·exact(b7.block a8 (Li (Li ol (fF.size gF)) ab.size) (by simp;exact ar)).trans ((ab.block a8 (Li ol (fF.size gF)) ad).trans (zj eb gF))
   ·rw[LK hif]
    have an:Hid (nU p im x=im.fM):=fE (Lt hif);clear hif;go_wp2_with(fail);go_meet;exact⟨A,c1,S1,by rw[an.out];exact(zj a4.out a2),by rw[an.out];exact aQ.out,a1.out,hO.out.trans (a2.only _),eb⟩
  case rest=>
   clear z0 z1 zf a0 u0 v1 x0 aQ o0 o1 o2 ol eb ao ad gS bf aU ax;obtain⟨A,c1,S1,a4,hH,a1,hO,eb⟩:=hcut;obtain⟨z0,z1,zf,a0⟩:=lM a4;obtain⟨o0,o1,_,_,_,_,_,_,_⟩:=mr eb;have ba:=hH;clear hH;have bY:=yR x.Item.Op;have bZ:¬ 9223372036854775807<im.Code.size+(jE x.Item.Op).size:=by omega
   go_upto_region 9 with(fail);refine kC (fun w'=>Lg w' ⟨g7,0,V⟩=H (G im.Code)/\Lg w' ⟨a8,0,V⟩=H (F I x.Item.Op.Code)/\Lg w' ⟨a8,1,V⟩=H (F I x.Item.Op.Arg)) 7 (by kernel_rfl) (Ls (zb z0) (Ls (zb o0) (zb o1))) (fun hH=>?_);have aa:fF wc wc.drew:=(fF.refl _).drew;clear z0 o0 o1;generalize wc.drew=wx at aa hH |-;obtain⟨z0,o0,o1⟩:=id hH;refine .tk 0 [7] hH ?_;refine .tk 1 [7] hH ?_;refine .tk 2 [7] hH ?_;refine .tk 3 [7] hH ?_;refine fX.one (i:=4) (by kernel_rfl) rfl (fun Le hK=>?_);go_simp;go_at_call 99;(with_reducible refine(zr8 x.Item.Op _).mono ?_);rintro e v1 ⟨rfl,aF⟩;have a6:=aa.trans aF;have bQ:∀ j,LD v1 ⟨g7,j,V⟩=U:=fun j=>((a6.only []).frozen a0 (by simp) j).trans (zf j);have bR:g7<v1.heap.size:=Li a0 a6.size;have z0:=za aF z0;have o0:=za aF o0;have o1:=za aF o1;refine hK.out _ _ (Ls z0 (Ls o0 o1)) (fun hI=>?_);clear hK hH;have hH:=hI
   try simp only[lay]
   refine .tk 5 [7] hH ?_;refine .tk 6 [7] hH ?_;refine fX.last (by kernel_rfl) rfl (by kernel_rfl) (fun Le hK=>?_);go_simp;refine hK.out _ _ ?_;clear hK
   try simp only[lay]
   have b9:=(jo (i:=0) (v:=G (im.Code++jE x.Item.Op)) (cur':=#[G (im.Code++jE x.Item.Op),J A (nU p im x).length c1]) (zj a4 a6) rfl)
   have bh:fJ [g7] w2 (v1.setCell ⟨g7,0,V⟩ (G (im.Code++jE x.Item.Op))):=(hO.trans (a6.only _)).setCell (p:=⟨g7,0,V⟩) (by simp) _;have bm:fJ [g7] v1 (v1.setCell ⟨g7,0,V⟩ (G (im.Code++jE x.Item.Op))):=(fJ.refl _ _).setCell (p:=⟨g7,0,V⟩) (by simp) _;have aq:=(ba.fO a6).fU bm (fun b hb hm=>by simp only[Lr] at hm;have:=a1 b hb;omega);go_upto_region 10 with(fail);clear bm ba z0 z1 zf bR bQ o0 o1 a0 eb a4;generalize (v1.setCell _ _)=W9 at b9 bh aq |-;have aS:(im.Code++jE x.Item.Op).size<=5*k+5:=by rw[Na];omega
   generalize (im.Code++jE x.Item.Op)=cd at b9 aS aK aN aC;obtain⟨m,hm⟩:∃ m,(nU p im x).length=m+1:=⟨(nU p im x).length-1,by have:=aC.out;omega⟩
   obtain⟨q,hq⟩:∃ q,(nU p im x)[m]?=H q:=⟨_,Lo (by omega)⟩
   have b4:=fun n=>G4 (n:=n) hm hq;have c2:0<=q.Start/\q.Start<=100000:=aN.out { q with il:=(cd.size:Nat)-q.Start } (by rw[b4];exact LP (i:=m) (by rw[MP (by omega)]));have a3:=am.out;rw[hm] at a3;have aJ:=fE (aK.out.trans (by rw[b4]));generalize nU p im x=sy at b9 aq hm hq aJ;rw[hm] at b9 aq;obtain⟨gs,rfl,bF,ay,qf,q1,q2,_⟩:=Em aq hq;obtain⟨z0,z1,_,a0⟩:=lM b9;have c5:Ll I ((cd.size:Int)-q.Start)=(cd.size:Int)-q.Start:=iw;have c4:Ll I ((m:Int)+1-1)=(m:Int):=by rw[M7];exact iw
   have bN:Ll I (m:Int)=(m:Int):=iw;have c0:(m:Int)<(m:Int)+1:=by omega
   have HM:=fE hm;have HQ:=fE hq;clear hm hq b4;refine kC (fun w'=>Lg w' ⟨g7,0,V⟩=H (G cd)/\Lg w' ⟨g7,1,V⟩=H (J (H ⟨gs,0,V⟩) (m+1) c1)/\Lg w' ⟨gs,m*3+1,V⟩=H (F I q.Start)/\Lg w' ⟨gs,m*3+2,V⟩=H (F I q.il)) 21 (by kernel_rfl) (Ls (zb z0) (Ls (zb z1) (Ls (zb q1) (zb q2)))) (fun hH=>?_);have aa:fF W9 W9.drew:=(fF.refl _).drew;clear z0 z1 q1 q2;generalize W9.drew=wx at aa hH |-;obtain⟨z0,z1,q1,q2⟩:=id hH;have c7:∀ j,LD wx ⟨gs,j,V⟩=U:=fun j=>((aa.only []).frozen ay (by simp) j).trans (qf j);have ca:gs<wx.heap.size:=Li ay aa.size;refine .tk 0 [21] hH ?_;refine .tk 1 [21] hH ?_;refine .tk 2 [21] hH ?_;refine .tk 3 [21] hH ?_;refine .tk 4 [21] hH ?_;refine .tk 5 [21] hH ?_;refine .tk 6 [21] hH ?_;refine .tk 7 [21] hH ?_;refine .tk 8 [21] hH ?_;refine .tk 9 [21] hH ?_;refine .tk 10 [21] hH ?_;refine .tk 11 [21] hH ?_;refine .tk 12 [21] hH ?_;refine .tk 13 [21] hH ?_;refine .tk 14 [21] hH ?_;refine .tk 15 [21] hH ?_;refine .tk 16 [21] hH ?_;refine .tk 17 [21] hH ?_;refine .tk 18 [21] hH ?_;refine .tk 19 [20,21] hH ?_;refine .tk 20 [21] hH ?_;refine fX.last (by kernel_rfl) rfl (by kernel_rfl) (fun Le hK=>?_);go_simp;refine hK.out _ _ ?_;clear hK
   try simp only[lay]
   obtain⟨bX,a7,_,_,_,_,_,aA⟩:=Em (aq.fO aa) HQ.out;injection a7 with a7
   injection a7 with a7
   subst a7;have hp:=aA ((cd.size:Int)-q.Start) ⟨by omega,by omega⟩;have aR:fJ [g7] w2 (wx.setCell ⟨gs,m*3+2,V⟩ (F I ((cd.size:Int)-q.Start))):=(bh.trans (aa.only _)).then hp.2 (fun b hb=>.inr (a1 b hb));have bs:g7∉S1:=fun hm=>by have:=a1 g7 hm;omega
   have bp:=(hp.2.block g7 (Li a0 aa.size) bs).trans (zj b9 aa);have HP:=fE hp.1;clear aA hp;go_wp2_with(fail);go_roundw
   case measure=>exact gL
   case rel=>
    refine⟨k+1,H ⟨gs,0,V⟩,c1,S1,by go_num,by omega,?_,?_,fE a1,fE aR⟩
    ·rw[aJ.out]
     show Hid (_=H (C #[G cd,J (H ⟨gs,0,V⟩) (sy.set m { q with il:=(cd.size:Nat)-q.Start }).length c1] _ _));rw[Ma,HM.out];exact fE bp
    ·rw[aJ.out]
     show Hid (Has _ _ [J (H ⟨gs,0,V⟩) (sy.set m { q with il:=(cd.size:Nat)-q.Start }).length c1] (sy.set m { q with il:=(cd.size:Nat)-q.Start }) S1);rw[Ma,HM.out];exact HP
 ·obtain rfl:k=xs.length:=by omega
  have bG:¬ ((xs.length:Int)<(xs.length:Int)):=by omega
  obtain⟨z0,z1,zf,a0⟩:=lM a4.out;have bP:=hO.out.size;have a9:=(hO.out.block g6 (by have:=(blt b8.out);omega) (by simp;exact aT)).trans b8.out;obtain⟨y0,y1,yf,bO⟩:=lM a9;have aG:fF w wr:=hO.out.fO ac.out (fun b hb=>by simp only[Lr] at hb;omega);have aI:=fE a9;clear a9;go_wp2_with(fail);have a9:=jo (i:=1) (v:=J A (kW p xs xs.length).fM.length c1) (cur':=#[G (kW p xs xs.length).Code,J A (kW p xs xs.length).fM.length c1]) (jo (i:=0) (v:=G (kW p xs xs.length).Code) (cur':=#[G (kW p xs xs.length).Code,J V 0 0]) aI.out rfl) rfl;have aw:=(aG.setRow (p:=⟨g6,0,V⟩) au (G (kW p xs xs.length).Code)).setRow (p:=⟨g6,1,V⟩) au (J A (kW p xs xs.length).fM.length c1);have bv:fJ [g6] wr ((wr.setCell ⟨g6,0,V⟩ (G (kW p xs xs.length).Code)).setCell ⟨g6,1,V⟩ (J A (kW p xs xs.length).fM.length c1)):=((fJ.refl _ _).setCell (p:=⟨g6,0,V⟩) (by simp) _).setCell (p:=⟨g6,1,V⟩) (by simp) _;have bg:=hH.out.fU bv (fun b hb hm=>by simp only[Lr] at hm;have:=a1.out b hb;omega);generalize ((wr.setCell _ _).setCell _ _)=W6 at a9 aw bg |-;obtain⟨r0,r1,_,_⟩:=lM a9;exact Ln (v:=.agg #[G (kW p xs xs.length).Code,J A (kW p xs xs.length).fM.length c1]) (by simp[Ly,results35,go_sem,r0,r1]) rfl (show vm _ w _ _ from by rw[bb.out];exact⟨A,c1,S1,rfl,bg,fun b hb=>by have:=a1.out b hb;have:=ac.out.size;omega,aw⟩)
end Go.Proofs.YtiihkapmggfjkaaGreat
