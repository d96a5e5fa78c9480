/-
  PART.
-/
import Derived.Test.YtiihkapmggfjkaaGreatM44LawMakeDebug
import Derived.Test.YtiihkapmggfjkaaGreatM48LawMakeDebug
import Derived.Test.YtiihkapmggfjkaaGreatM49LawMakeDebug
set_option linter.unusedVariables false
set_option linter.unusedSimpArgs false
set_option maxRecDepth 100000
set_option maxHeartbeats 8000000
namespace Go.Proofs.YtiihkapmggfjkaaGreat
open Value renaming slice->J,int->F,bool->X,string->G
open IntKind renaming i64->I
open Option renaming none->V,some->H
open Obj renaming cells->C
open Bool renaming false->U,true->M
open Go renaming World->N,results->Ly,Value->LA,Calls->LR,Addr->Mh
open World renaming cell?->Lg
open Tryz
open Go.RowKit
variable {A:K Mh}{b:gC}{c:Nat}{image:Int}{p:Q fG}{w:N}
theorem xZ {xs:Q fQ} (h:∀ x∈xs,pa p x):∀ x∈xs,x.Item.fH.length<=100:=fun x hx=>LO (h x hx).chain (by omega)
theorem Ew (s:D)(n:Nat):fV (lB s n):=by
 have:=Ef s n;exact⟨by omega,by omega⟩
theorem CS {W:N} {p:Mh} {v u:LA} {g i:Nat} (hne:p.block≠g)(h:Lg W ⟨g,i,V⟩=H u):(W.setCell p v).cell? ⟨g,i,V⟩=H u:=(World.cell?_setCell_far _ _ _ _ hne).trans h
theorem B8 (w W:N):gM oE w W [F I 0,J V 0 0,J V 0 0,J V 0 0,J V 0 0] ⟨0,[],[],[],[]⟩:=
 ⟨_,ym (x:=⟨0,[],[],[],[]⟩) ⟨by decide,by decide⟩ (Has.nil jU 110 W).1 (Has.nil jJ 137 W).1 (Has.nil kd 139 W).1 (Has.nil jH 143 W).1,Ou,fun b hb=>by cases hb⟩
theorem znx (hx:(zM.sl 87).R w w.heap.size [J A p.length c] p)(hll:p.length<=1099511627776)(hs:∀ x∈p,x.fP.length<=1099511627776/\x.Expr.length<=1099511627776)(hnm:∀ x∈p,x.Name.size<=9223372036854775807) :
  LR prog 7 #[J A p.length c,.agg #[F I b.Frames,F I b.Inline,X b.Fold,X b.Split],F I image] w (qN (mb p b image) w):=by
 obtain⟨bF,bI,a0,bS⟩:=b;have BO:=fun w=>wh (b:=⟨bF,bI,a0,bS⟩) (w:=w);have aC:=fE BO;clear BO;have EZ:Hid (((w.alloc (C #[F I bF,F I bI,X a0,X bS] 35)).alloc (C #[F I 0,J V 0 0,J V 0 0,J V 0 0,J V 0 0] 31)).heap[w.heap.size+1]?=H (C #[F I 0,J V 0 0,J V 0 0,J V 0 0,J V 0 0] 31 (0,0))):=fE (by have h:=Lp (w.alloc (C #[F I bF,F I bI,X a0,X bS] 35)) (C #[F I 0,J V 0 0,J V 0 0,J V 0 0,J V 0 0] 31);rw[Mo] at h;exact h);obtain⟨cc,a5⟩:∃ cc:Bool,(zs p && jG ⟨bF,bI,a0,bS⟩ && gW image 0 1)=cc:=⟨_,rfl⟩
 cases cc with
 | false=>
  have HE:Hid (mb p ⟨bF,bI,a0,bS⟩ image=⟨0,[],[],[],[]⟩):=fE (by unfold mb;rw[Lt (fun h=>by rw[h.1,h.2.1,h.2.2] at a5;cases a5)])
  have aN:∀(pb bb ib:Bool),Hid (zs p=pb)->Hid (jG ⟨bF,bI,a0,bS⟩=bb)->Hid (gW image 0 1=ib)->(pb && bb && ib)=U->LR prog 7 #[J A p.length c,.agg #[F I bF,F I bI,X a0,X bS],F I image] w (qN (mb p ⟨bF,bI,a0,bS⟩ image) w):=by
   intro pb bb ib an al am h0;cases pb <;> cases bb <;> cases ib <;> (try (exact absurd h0 (by decide)))
   all_goals
    clear h0 a5
    go_enter func7,ntmps7
    go_wp2_with(first | (go_at_call 31;(with_reducible refine(za8 (Ty.up _ hx gF) hll hs).mono ?_);rw[an.out];rintro e w1 ⟨rfl,a4⟩;have av:fF w w1:=fF.trans (b:=_) gF a4;have a3:=fE (zj EZ.out a4);have a2:=fE av;obtain⟨b0,b1,b2,b3,bf,bl⟩:=jq (zj (Lp w (C #[F I bF,F I bI,X a0,X bS] 35)) (fF.trans (b:=_) gF a4));obtain⟨y0,y1,y2,y3,y4,yf,yl⟩:=pC (zj EZ.out a4)) | (go_at_call 32;(with_reducible refine(aC.out _).mono ?_);rw[al.out];rintro e w2 ⟨rfl,a1⟩;have a3:=fE (zj a3.out a1);have a2:=fE (a2.out.trans a1);have y0:=za a1 y0;have y1:=za a1 y1;have y2:=za a1 y2;have y3:=za a1 y3;have y4:=za a1 y4;have yf:=(pC (zj EZ.out (a4.trans a1))).2.2.2.2.2.1) | (go_at_call 33;(with_reducible refine(lj _ _ _ _).mono ?_);rw[am.out];rintro e w3 ⟨rfl,rfl⟩))
    obtain⟨e5,o5⟩:=wV a3.out (F I 0) (J V 0 0) (J V 0 0) (J V 0 0) (J V 0 0)
    have az:=o5.fO a2.out (fun b hb=>by simp only[Lr] at hb;omega)
    obtain⟨r0,r1,r2,r3,r4,_,_⟩:=pC e5
    exact Ln (v:=.agg #[F I 0,J V 0 0,J V 0 0,J V 0 0,J V 0 0]) (by simp[Ly,results7,go_sem,r0,r1,r2,r3,r4]) rfl (show qN _ w _ _ from by rw[HE.out];exact⟨V,0,V,0,V,0,V,0,rfl,B8 _ _,az⟩)
  exact aN _ _ _ (fE rfl) (fE rfl) (fE rfl) a5
 | true=>
  have ah:zs p=M:=by revert a5;cases zs p <;> simp
  have ax:jG ⟨bF,bI,a0,bS⟩=M:=by revert a5;cases jG ⟨bF,bI,a0,bS⟩ <;> simp
  have aA:gW image 0 1=M:=by revert a5;cases gW image 0 1 <;> simp
  have HE:Hid (mb p ⟨bF,bI,a0,bS⟩ image=⟨lB (lD p ⟨bF,bI,a0,bS⟩ image).Code (lD p ⟨bF,bI,a0,bS⟩ image).Code.size,(lD p ⟨bF,bI,a0,bS⟩ image).fM,kU (zK p ⟨bF,bI,a0,bS⟩ image),nE (zK p ⟨bF,bI,a0,bS⟩ image),zS p (zK p ⟨bF,bI,a0,bS⟩ image)⟩):=fE (by unfold mb;rw[Lu ⟨ah,ax,aA⟩]);have aT:=(nt ah).len;obtain⟨a7,ae,a8⟩:=vO p ⟨bF,bI,a0,bS⟩ image
  have ac:(lD p ⟨bF,bI,a0,bS⟩ image).Code.size<=72000:=by
   rw[wA];have:=(ui (p:=p) a8 _ (Lz _)).1;omega
  have au:=fun(W:N) (h:(zM.sl 87).R W W.heap.size [J A p.length c] p)=>zkj (w:=W) (A:=A) (c:=c) (b:=⟨bF,bI,a0,bS⟩) (image:=image) h hll hs;have aj:=fun(W:N) (h:(zM.sl 87).R W W.heap.size [J A p.length c] p)=>zn7 (w:=W) (A:=A) (c:=c) (b:=⟨bF,bI,a0,bS⟩) (image:=image) h hll hs;generalize lD p ⟨bF,bI,a0,bS⟩ image=im at HE aj ac;generalize zK p ⟨bF,bI,a0,bS⟩ image=xs at HE au a7 ae a8;have ao:=fE au;have ak:=fE aj;have aO:=fE (xZ a7);have an:=fE ah;have al:=fE ax;have am:=fE aA;clear au aj a7 a8 ah ax aA a5;go_enter func7,ntmps7;go_upto_region 5 with(first | (go_at_call 31;(with_reducible refine(za8 (Ty.up _ hx gF) hll hs).mono ?_);rw[an.out];rintro e w1 ⟨rfl,a4⟩;have av:fF w w1:=fF.trans (b:=_) gF a4;have a3:=fE (zj EZ.out a4);have a2:=fE av;obtain⟨b0,b1,b2,b3,bf,bl⟩:=jq (zj (Lp w (C #[F I bF,F I bI,X a0,X bS] 35)) (fF.trans (b:=_) gF a4))) | (go_at_call 32;(with_reducible refine(aC.out _).mono ?_);rw[al.out];rintro e w2 ⟨rfl,a1⟩;have a3:=fE (zj a3.out a1);have a2:=fE (a2.out.trans a1);have b0:=za a1 b0;have b1:=za a1 b1;have b2:=za a1 b2;have b3:=za a1 b3) | (go_at_call 33;(with_reducible refine(lj _ _ _ _).mono ?_);rw[am.out];rintro e w3 ⟨rfl,rfl⟩) | (go_at_call 34;(with_reducible refine(ao.out _ (Ty.up _ hx a2.out)).mono ?_);rintro e w4 ⟨A8,c8,rs,S8,rfl,aS,aR,aW,aa⟩;have a3:=fE (zj a3.out aa);have aU:=(blt a3.out);have a2:=fE (a2.out.trans aa);have b0:=za aa b0;have b1:=za aa b1;have b2:=za aa b2;have b3:=za aa b3) | (go_at_call 35;(with_reducible refine(ak.out _ (Ty.up _ hx a2.out)).mono ?_);rintro e w5 ⟨A9,c9,S9,rfl,aH,aL,ay⟩;have a3:=fE (zj a3.out ay);have a2:=fE (a2.out.trans ay)));have aw:=a3.out;have aM:=a2.out;have aQ:=Ty.up _ (aR.read aS rfl) ay;have eb:=Lp w5 (C #[G im.Code,J A9 im.fM.length c9] 58);have a6:fF w5 (w5.alloc (C #[G im.Code,J A9 im.fM.length c9] 58)):=(fF.refl _).alloc _;obtain⟨g8,a9⟩:∃ g,w5.heap.size=g:=⟨_,rfl⟩
  rw[a9] at eb |-;have aV:=fE a9;have aX:=(blt aw)
  have ad:w.heap.size+1≠g8:=by omega
  clear a9 b0 b1 b2 b3 bf bl;generalize (w5.alloc _)=Y at eb a6 |-;obtain⟨o0,o1,_,_⟩:=lM eb;have ap:=fE (Ty.up _ aQ a6);have aP:=fE (Ty.up _ hx (aM.trans a6));go_region_held3 (fun w'=>Lg w' ⟨g8,0,V⟩=H (G im.Code)/\Lg w' ⟨g8,1,V⟩=H (J A9 im.fM.length c9)) ((repeat' apply Ls) <;> ((repeat (first | with_reducible assumption | with_reducible refine CS (by exact ad) ?_ | with_reducible refine zC ?_ _ _ | with_reducible refine zo ?_ _ | with_reducible refine zb ?_ | with_reducible refine oL ?_ _));done)) (first | (go_at_call 36;(with_reducible refine(zpU (i:=im) (A:=A9) (c:=c9) (by omega)).mono ?_);rintro e v1 ⟨rfl,aB⟩;have aq:fF Y v1:=(fF.trans (b:=_) gF aB);have o0:=za (fF.trans (b:=_) gF aB) o0;have o1:=za (fF.trans (b:=_) gF aB) o1) | (go_at_call 37;(with_reducible refine(zqg (Ty.up _ ap.out (aq.trans gF)) (by omega)).mono ?_);rintro e v2 ⟨A2,c2,S2,rfl,aE,aI,ai⟩;have aD:fF Y v2:=aq.trans (fF.trans (b:=_) gF ai);have o0:=za (fF.trans (b:=_) gF ai) o0;have o1:=za (fF.trans (b:=_) gF ai) o1) | (go_at_call 38;(with_reducible refine(zrz (Ty.up _ ap.out (aD.trans gF)) (by omega)).mono ?_);rintro e v3 ⟨A3,c3,S3,rfl,aF,aJ,af⟩;have ar:fF Y v3:=aD.trans (fF.trans (b:=_) gF af);have o0:=za (fF.trans (b:=_) gF af) o0;have o1:=za (fF.trans (b:=_) gF af) o1) | (go_at_call 39;(with_reducible refine(zni (Ty.up _ aP.out (ar.trans gF)) (by omega) hs hnm (Ty.up _ ap.out (ar.trans gF)) (by omega) aO.out).mono ?_);rintro e v4 ⟨A4,c4,S4,rfl,aG,aK,ab⟩;have ag:fF Y v4:=ar.trans (fF.trans (b:=_) gF ab);have o0:=za (fF.trans (b:=_) gF ab) o0;have o1:=za (fF.trans (b:=_) gF ab) o1;obtain⟨y0,y1,y2,y3,y4,yf,yl⟩:=pC (zj aw (a6.trans ag))))
  all_goals go_wp2_with(fail)
  obtain⟨e5,o5⟩:=wV (zj aw (a6.trans ag)) (F I (lB im.Code im.Code.size)) (J A9 im.fM.length c9) (J A2 (kU xs).length c2) (J A3 (nE xs).length c3) (J A4 (zS p xs).length c4);have az:=o5.fO (aM.trans (a6.trans ag)) (fun b hb=>by simp only[Lr] at hb;omega);have zY:=a6.size;have z1:=aq.size;have z2:=ai.size;have z3:=af.size;have z4:=ab.size;have q9:=(aH.fO (a6.trans ag)).fU o5 (fun b hb hm=>by simp only[Lr] at hm;have:=aL b hb;omega);have q2:=(aE.fO (af.trans ab)).fU o5 (fun b hb hm=>by simp only[Lr] at hm;have:=aI b hb;omega);have q3:=(aF.fO ab).fU o5 (fun b hb hm=>by simp only[Lr] at hm;have:=aJ b hb;omega);have q4:=(aG).fU o5 (fun b hb hm=>by simp only[Lr] at hm;have:=aK b hb;omega);obtain⟨r0,r1,r2,r3,r4,_,_⟩:=pC e5
  exact Ln (v:=.agg #[F I (lB im.Code im.Code.size),J A9 im.fM.length c9,J A2 (kU xs).length c2,J A3 (nE xs).length c3,J A4 (zS p xs).length c4]) (by simp[Ly,results7,go_sem,r0,r1,r2,r3,r4]) rfl (show qN _ w _ _ from by
   rw[HE.out]
   exact⟨A9,c9,A2,c2,A3,c3,A4,c4,rfl,Bu (x:=⟨lB im.Code im.Code.size,im.fM,kU xs,nE xs,zS p xs⟩) (u1:=w4) (m1:=w5.heap.size) (u2:=v1) (m2:=v2.heap.size) (u3:=v2) (m3:=v3.heap.size) (u4:=v3) (m4:=v4.heap.size) (Ew _ _) ⟨S9,q9.1,q9.2,fun b hb=>⟨aL b hb,aH.lt b hb⟩⟩ ⟨S2,q2.1,q2.2,fun b hb=>⟨aI b hb,aE.lt b hb⟩⟩ ⟨S3,q3.1,q3.2,fun b hb=>⟨aJ b hb,aF.lt b hb⟩⟩ ⟨S4,q4.1,q4.2,fun b hb=>⟨aK b hb,aG.lt b hb⟩⟩ (by omega) (by omega) (by omega) (by omega) (.inl (by omega)) (.inl (by omega)) (.inl (by omega)) (.inl (by omega)) (.inl (by omega)) (.inl (by omega)),az⟩)
theorem ziN (hx:(zM.sl 87).R w w.heap.size [J A p.length c] p)(hll:p.length<=1099511627776)(hs:∀ x∈p,x.fP.length<=1099511627776/\x.Expr.length<=1099511627776)(hnm:∀ x∈p,x.Name.size<=9223372036854775807) :
  LR prog 10 #[J A p.length c,.agg #[F I b.Frames,F I b.Inline,X b.Fold,X b.Split],F I image] w (qN (mb p b image) w):=by
 obtain⟨bF,bI,a0,bS⟩:=b;have BO:=fun w=>uH (b:=⟨bF,bI,a0,bS⟩) (w:=w);have aE:=fE BO;clear BO;have EZ:Hid (((w.alloc (C #[F I bF,F I bI,X a0,X bS] 35)).alloc (C #[F I 0,J V 0 0,J V 0 0,J V 0 0,J V 0 0] 31)).heap[w.heap.size+1]?=H (C #[F I 0,J V 0 0,J V 0 0,J V 0 0,J V 0 0] 31 (0,0))):=fE (by have h:=Lp (w.alloc (C #[F I bF,F I bI,X a0,X bS] 35)) (C #[F I 0,J V 0 0,J V 0 0,J V 0 0,J V 0 0] 31);rw[Mo] at h;exact h);obtain⟨cc,a5⟩:∃ cc:Bool,(zs p && jG ⟨bF,bI,a0,bS⟩ && gW image 0 1)=cc:=⟨_,rfl⟩
 cases cc with
 | false=>
  have HE:Hid (mb p ⟨bF,bI,a0,bS⟩ image=⟨0,[],[],[],[]⟩):=fE (by unfold mb;rw[Lt (fun h=>by rw[h.1,h.2.1,h.2.2] at a5;cases a5)])
  have aP:∀(pb bb ib:Bool),Hid (zs p=pb)->Hid (jG ⟨bF,bI,a0,bS⟩=bb)->Hid (gW image 0 1=ib)->(pb && bb && ib)=U->LR prog 10 #[J A p.length c,.agg #[F I bF,F I bI,X a0,X bS],F I image] w (qN (mb p ⟨bF,bI,a0,bS⟩ image) w):=by
   intro pb bb ib aq an ap h0;cases pb <;> cases bb <;> cases ib <;> (try (exact absurd h0 (by decide)))
   all_goals
    clear h0 a5
    go_enter func10,ntmps10
    go_wp2_with(first | (go_at_call 41;(with_reducible refine(zav (Ty.up _ hx gF) hll hs).mono ?_);rw[aq.out];rintro e w1 ⟨rfl,a4⟩;have ay:fF w w1:=fF.trans (b:=_) gF a4;have a2:=fE (zj EZ.out a4);have a1:=fE ay;obtain⟨b0,b1,b2,b3,bf,bl⟩:=jq (zj (Lp w (C #[F I bF,F I bI,X a0,X bS] 35)) (fF.trans (b:=_) gF a4));obtain⟨y0,y1,y2,y3,y4,yf,yl⟩:=pC (zj EZ.out a4)) | (go_at_call 42;(with_reducible refine(aE.out _).mono ?_);rw[an.out];rintro e w2 ⟨rfl,a3⟩;have a2:=fE (zj a2.out a3);have a1:=fE (a1.out.trans a3);have y0:=za a3 y0;have y1:=za a3 y1;have y2:=za a3 y2;have y3:=za a3 y3;have y4:=za a3 y4;have yf:=(pC (zj EZ.out (a4.trans a3))).2.2.2.2.2.1) | (go_at_call 43;(with_reducible refine(jr _ _ _ _).mono ?_);rw[ap.out];rintro e w3 ⟨rfl,rfl⟩))
    obtain⟨e5,o5⟩:=wV a2.out (F I 0) (J V 0 0) (J V 0 0) (J V 0 0) (J V 0 0)
    have aB:=o5.fO a1.out (fun b hb=>by simp only[Lr] at hb;omega)
    obtain⟨r0,r1,r2,r3,r4,_,_⟩:=pC e5
    exact Ln (v:=.agg #[F I 0,J V 0 0,J V 0 0,J V 0 0,J V 0 0]) (by simp[Ly,results10,go_sem,r0,r1,r2,r3,r4]) rfl (show qN _ w _ _ from by rw[HE.out];exact⟨V,0,V,0,V,0,V,0,rfl,B8 _ _,aB⟩)
  exact aP _ _ _ (fE rfl) (fE rfl) (fE rfl) a5
 | true=>
  have aj:zs p=M:=by revert a5;cases zs p <;> simp
  have aA:jG ⟨bF,bI,a0,bS⟩=M:=by revert a5;cases jG ⟨bF,bI,a0,bS⟩ <;> simp
  have aC:gW image 0 1=M:=by revert a5;cases gW image 0 1 <;> simp
  have HE:Hid (mb p ⟨bF,bI,a0,bS⟩ image=⟨lB (lD p ⟨bF,bI,a0,bS⟩ image).Code (lD p ⟨bF,bI,a0,bS⟩ image).Code.size,(lD p ⟨bF,bI,a0,bS⟩ image).fM,kU (zK p ⟨bF,bI,a0,bS⟩ image),nE (zK p ⟨bF,bI,a0,bS⟩ image),zS p (zK p ⟨bF,bI,a0,bS⟩ image)⟩):=fE (by unfold mb;rw[Lu ⟨aj,aA,aC⟩]);have aU:=(nt aj).len;obtain⟨a8,ag,a9⟩:=vO p ⟨bF,bI,a0,bS⟩ image
  have ad:(lD p ⟨bF,bI,a0,bS⟩ image).Code.size<=72000:=by
   rw[wA];have:=(ui (p:=p) a9 _ (Lz _)).1;omega
  have ax:=fun(W:N) (h:(zM.sl 87).R W W.heap.size [J A p.length c] p)=>zoM (w:=W) (A:=A) (c:=c) (b:=⟨bF,bI,a0,bS⟩) (image:=image) h hll hs;have al:=fun(W:N) (h:(zM.sl 87).R W W.heap.size [J A p.length c] p)=>zn6 (w:=W) (A:=A) (c:=c) (b:=⟨bF,bI,a0,bS⟩) (image:=image) h hll hs;generalize lD p ⟨bF,bI,a0,bS⟩ image=im at HE al ad;generalize zK p ⟨bF,bI,a0,bS⟩ image=xs at HE ax a8 ag a9;have ar:=fE ax;have am:=fE al;have aQ:=fE (xZ a8);have aq:=fE aj;have an:=fE aA;have ap:=fE aC;clear ax al a8 a9 aj aA aC a5;go_enter func10,ntmps10;go_upto_region 4 with(first | (go_at_call 41;(with_reducible refine(zav (Ty.up _ hx gF) hll hs).mono ?_);rw[aq.out];rintro e w1 ⟨rfl,a4⟩;have ay:fF w w1:=fF.trans (b:=_) gF a4;have a2:=fE (zj EZ.out a4);have a1:=fE ay;obtain⟨b0,b1,b2,b3,bf,bl⟩:=jq (zj (Lp w (C #[F I bF,F I bI,X a0,X bS] 35)) (fF.trans (b:=_) gF a4))) | (go_at_call 42;(with_reducible refine(aE.out _).mono ?_);rw[an.out];rintro e w2 ⟨rfl,a3⟩;have a2:=fE (zj a2.out a3);have aV:=(blt a2.out);have a1:=fE (a1.out.trans a3);have b0:=za a3 b0;have b1:=za a3 b1;have b2:=za a3 b2;have b3:=za a3 b3) | (go_at_call 43;(with_reducible refine(jr _ _ _ _).mono ?_);rw[ap.out];rintro e w3 ⟨rfl,rfl⟩) | (go_at_call 44;(with_reducible refine(am.out _ (Ty.up _ hx a1.out)).mono ?_);rintro e w5 ⟨A9,c9,S9,rfl,aJ,aN,ab⟩;have a2:=fE (zj a2.out ab);have aW:=(blt a2.out);have a1:=fE (a1.out.trans ab);have b0:=za ab b0;have b1:=za ab b1;have b2:=za ab b2;have b3:=za ab b3));have ao:=a1;have eb:=Lp w5 (C #[G im.Code,J A9 im.fM.length c9] 58);have a7:fF w5 (w5.alloc (C #[G im.Code,J A9 im.fM.length c9] 58)):=(fF.refl _).alloc _;obtain⟨g8,aa⟩:∃ g,w5.heap.size=g:=⟨_,rfl⟩
  rw[aa] at eb |-;have aX:=fE aa;have af:w.heap.size+1≠g8:=by omega
  have a2:=fE (zj a2.out a7);have a1:=fE (a1.out.trans a7);have b0:=za a7 b0;have b1:=za a7 b1;have b2:=za a7 b2;have b3:=za a7 b3;clear aa bf bl;generalize (w5.alloc _)=Y0 at eb a7 a2 a1 b0 b1 b2 b3 |-;go_upto_region 5 with(first | (go_at_call 45;(with_reducible refine(ar.out _ (Ty.up _ hx a1.out)).mono ?_);rintro e Y ⟨A8,c8,rs,S8,rfl,aT,aS,aY,a6⟩;have a2:=fE (zj a2.out a6);have a1:=fE (a1.out.trans a6);have b0:=za a6 b0;have b1:=za a6 b1;have b2:=za a6 b2;have b3:=za a6 b3));have az:=a2.out;have aO:=a1.out;have aZ:=(blt az)
  have ae:=a7.trans a6;obtain⟨o0,o1,_,_⟩:=lM (zj eb a6);have au:=fE (aS.read aT rfl);have aR:=fE (Ty.up _ hx aO);clear b0 b1 b2 b3 eb;go_region_held3 (fun w'=>Lg w' ⟨g8,0,V⟩=H (G im.Code)/\Lg w' ⟨g8,1,V⟩=H (J A9 im.fM.length c9)) ((repeat' apply Ls) <;> ((repeat (first | with_reducible assumption | with_reducible refine CS (by exact af) ?_ | with_reducible refine zC ?_ _ _ | with_reducible refine zo ?_ _ | with_reducible refine zb ?_ | with_reducible refine oL ?_ _));done)) (first | (go_at_call 46;(with_reducible refine(zpT (i:=im) (A:=A9) (c:=c9) (by omega)).mono ?_);rintro e v1 ⟨rfl,aD⟩;have av:fF Y v1:=(fF.trans (b:=_) gF aD);have o0:=za (fF.trans (b:=_) gF aD) o0;have o1:=za (fF.trans (b:=_) gF aD) o1) | (go_at_call 47;(with_reducible refine(zqf (Ty.up _ au.out (av.trans gF)) (by omega)).mono ?_);rintro e v2 ⟨A2,c2,S2,rfl,aG,aK,ak⟩;have aF:fF Y v2:=av.trans (fF.trans (b:=_) gF ak);have o0:=za (fF.trans (b:=_) gF ak) o0;have o1:=za (fF.trans (b:=_) gF ak) o1) | (go_at_call 48;(with_reducible refine(zry (Ty.up _ au.out (aF.trans gF)) (by omega)).mono ?_);rintro e v3 ⟨A3,c3,S3,rfl,aH,aL,ah⟩;have aw:fF Y v3:=aF.trans (fF.trans (b:=_) gF ah);have o0:=za (fF.trans (b:=_) gF ah) o0;have o1:=za (fF.trans (b:=_) gF ah) o1) | (go_at_call 49;(with_reducible refine(znh (Ty.up _ aR.out (aw.trans gF)) (by omega) hs hnm (Ty.up _ au.out (aw.trans gF)) (by omega) aQ.out).mono ?_);rintro e v4 ⟨A4,c4,S4,rfl,aI,aM,ac⟩;have ai:fF Y v4:=aw.trans (fF.trans (b:=_) gF ac);have o0:=za (fF.trans (b:=_) gF ac) o0;have o1:=za (fF.trans (b:=_) gF ac) o1;obtain⟨y0,y1,y2,y3,y4,yf,yl⟩:=pC (zj az ai)))
  all_goals go_wp2_with(fail)
  obtain⟨e5,o5⟩:=wV (zj az ai) (F I (lB im.Code im.Code.size)) (J A9 im.fM.length c9) (J A2 (kU xs).length c2) (J A3 (nE xs).length c3) (J A4 (zS p xs).length c4);have aB:=o5.fO (aO.trans ai) (fun b hb=>by simp only[Lr] at hb;omega);have zY:=ae.size;have zW:=ao.out.size;have z1:=av.size;have z2:=ak.size;have z3:=ah.size;have z4:=ac.size;have q9:=(aJ.fO (ae.trans ai)).fU o5 (fun b hb hm=>by simp only[Lr] at hm;have:=aN b hb;omega);have q2:=(aG.fO (ah.trans ac)).fU o5 (fun b hb hm=>by simp only[Lr] at hm;have:=aK b hb;omega);have q3:=(aH.fO ac).fU o5 (fun b hb hm=>by simp only[Lr] at hm;have:=aL b hb;omega);have q4:=(aI).fU o5 (fun b hb hm=>by simp only[Lr] at hm;have:=aM b hb;omega);obtain⟨r0,r1,r2,r3,r4,_,_⟩:=pC e5
  exact Ln (v:=.agg #[F I (lB im.Code im.Code.size),J A9 im.fM.length c9,J A2 (kU xs).length c2,J A3 (nE xs).length c3,J A4 (zS p xs).length c4]) (by simp[Ly,results10,go_sem,r0,r1,r2,r3,r4]) rfl (show qN _ w _ _ from by
   rw[HE.out]
   exact⟨A9,c9,A2,c2,A3,c3,A4,c4,rfl,Bu (x:=⟨lB im.Code im.Code.size,im.fM,kU xs,nE xs,zS p xs⟩) (u1:=w2) (m1:=w5.heap.size) (u2:=v1) (m2:=v2.heap.size) (u3:=v2) (m3:=v3.heap.size) (u4:=v3) (m4:=v4.heap.size) (Ew _ _) ⟨S9,q9.1,q9.2,fun b hb=>⟨aN b hb,aJ.lt b hb⟩⟩ ⟨S2,q2.1,q2.2,fun b hb=>⟨aK b hb,aG.lt b hb⟩⟩ ⟨S3,q3.1,q3.2,fun b hb=>⟨aL b hb,aH.lt b hb⟩⟩ ⟨S4,q4.1,q4.2,fun b hb=>⟨aM b hb,aI.lt b hb⟩⟩ (by omega) (by omega) (by omega) (by omega) (.inl (by omega)) (.inl (by omega)) (.inl (by omega)) (.inl (by omega)) (.inl (by omega)) (.inl (by omega)),aB⟩)
end Go.Proofs.YtiihkapmggfjkaaGreat
