/-
  PART.
-/
import Derived.Test.YtiihkapmggfjkaaGreatM35LawMakeDebug
import Derived.Test.YtiihkapmggfjkaaGreatM42LawMakeDebug
set_option linter.unusedVariables false
set_option linter.unusedSimpArgs false
set_option maxRecDepth 100000
set_option maxHeartbeats 8000000
namespace Go.Proofs.YtiihkapmggfjkaaGreat
open Value renaming slice->J,int->F,bool->X,string->G
open IntKind renaming i64->I,wrap->Ll
open Option renaming none->V,some->H
open Obj renaming cells->C
open Bool renaming false->U,true->M
open Go renaming World->N,results->Ly,Calls->LR,Addr->Mh,Value->LA,yielded->NA
open World renaming cell?->Lg,setCell->MH
open RowKit renaming intOf->Ml
open List renaming take_succ_cons->Mm,nil_append->Mw,take_zero->MN
open Region renaming wanted->MI,ready->MK,noSelect->ND,free->Oq
open Tryz
open Go.RowKit
variable {A:K Mh}{b:gC}{c f:Nat}{m:fW}{p xs:Q fG}{w:N}{x:fG}
theorem II (h:m.start=U):iv [] m=m:=by
 unfold iv;rw[D9,<-h]
theorem JR (h:m.start=U):ia [] m:=⟨fun j hj=>(by cases hj),⟨fun hh=>(by rw[h] at hh;cases hh),fun hh=>(by cases hh)⟩,fun j x hj=>(by cases hj)⟩
theorem zk6 {i:Nat} {words:Int} (hx:(zM.sl 87).R w w.heap.size [J A p.length c] p)(hl:∀ x∈p,x.fP.length<=1099511627776/\x.Expr.length<=1099511627776)(hp:j9 p)(hEl:tI p)(hb:jG b=M)(hg:(zk p)[f]?=H (i:Int))(hw:0<=words/\words<=100) :
  LR prog 226 #[J A p.length c,F I i,.agg #[F I b.Frames,F I b.Inline,X b.Fold,X b.Split],X (kB b f),F I words] w (ri (kH p b f words) w):=by
 have au:=hb;unfold jG at au;rw[LC] at au;obtain⟨hE,hS,hM,i',e,x,aA,aC,b1,he,bu,bx,bv⟩:=Dc hp au.2 hg hw;obtain rfl:i'=i:=by omega
 have bl:=(Lh.1 aC).1;have bz:=hp.len;have aZ:p.length<=1099511627776:=by omega
 have HC:=fE (xH (b:=b) (words:=words) hg);have bw:(i':Int)<(p.length:Int):=by omega
 obtain⟨gp,op,x',b2,b6,bp,bt,hA,bj,a6,x0,x1,x2,x3,_⟩:=jb hx bl;obtain rfl:x'=x:=by rw[aC] at a6;injection a6 with h;exact h.symm
 obtain⟨fb,ax⟩:∃ fb,kB b f=fb:=⟨_,rfl⟩
 obtain⟨P,hP⟩:∃ P:ig,P=⟨mE p b f words i',b,A,c,w.heap.size+1+1,w⟩:=⟨_,rfl⟩
 have hR:kX P:=by rw[hP];exact⟨hx,hl,hE⟩
 have ap:P.E=mE p b f words i':=by rw[hP]
 have a8:P.g=w.heap.size+1+1:=by rw[hP]
 have ab:P.Y=w:=by rw[hP]
 have b4:=fE he.iy;have aE:=fE ax;have bm:=hl;rw[ax];clear aA aC a6 x0 x1 x3 bj hg;have HP:=fE hP;have HA:=fE hA;have aJ:=fE b1;have HM:=fE hM;have b5:=fE hS;have HE:=fE he;clear hA hP ax b1 hM hS he;go_enter func226,ntmps226;go_upto_region 2 with(fail);obtain⟨n0,af⟩:∃ n,w.heap.size=n:=⟨_,rfl⟩
 have e1:(((w.alloc (C #[F I b.Frames,F I b.Inline,X b.Fold,X b.Split] 35)).alloc (C #[F I (i':Int)] 3)).alloc (C #[J A p.length c,F I b.Frames,F I b.Inline,X b.Fold,X b.Split,X fb,F I words,F I 0,J V 0 0,F I 0,J (H ⟨w.heap.size+1,0,V⟩) 1 1] 271)).heap[w.heap.size+1]?=H (C #[F I (i':Int)] 3 (0,0)):=by
  have h:=Lp (w.alloc (C #[F I b.Frames,F I b.Inline,X b.Fold,X b.Split] 35)) (C #[F I (i':Int)] 3);rw[Mo] at h;exact zj h ((fF.refl _).alloc _)
 have e2:(((w.alloc (C #[F I b.Frames,F I b.Inline,X b.Fold,X b.Split] 35)).alloc (C #[F I (i':Int)] 3)).alloc (C #[J A p.length c,F I b.Frames,F I b.Inline,X b.Fold,X b.Split,X fb,F I words,F I 0,J V 0 0,F I 0,J (H ⟨w.heap.size+1,0,V⟩) 1 1] 271)).heap[w.heap.size+1+1]?=H (C #[J A p.length c,F I b.Frames,F I b.Inline,X b.Fold,X b.Split,X fb,F I words,F I 0,J V 0 0,F I 0,J (H ⟨w.heap.size+1,0,V⟩) 1 1] 271 (0,0)):=by
  have h:=Lp ((w.alloc (C #[F I b.Frames,F I b.Inline,X b.Fold,X b.Split] 35)).alloc (C #[F I (i':Int)] 3)) (C #[J A p.length c,F I b.Frames,F I b.Inline,X b.Fold,X b.Split,X fb,F I words,F I 0,J V 0 0,F I 0,J (H ⟨w.heap.size+1,0,V⟩) 1 1] 271);rw[Mo,Mo] at h;exact h
 have a7:fF w (((w.alloc (C #[F I b.Frames,F I b.Inline,X b.Fold,X b.Split] 35)).alloc (C #[F I (i':Int)] 3)).alloc (C #[J A p.length c,F I b.Frames,F I b.Inline,X b.Fold,X b.Split,X fb,F I words,F I 0,J V 0 0,F I 0,J (H ⟨w.heap.size+1,0,V⟩) 1 1] 271)):=gF;rw[af] at e1 e2 a7 a8 |-;generalize (((w.alloc _).alloc _).alloc _)=W3 at e1 e2 a7 |-;have br:=fE af;have a4:=fE ap;have a1:=fE a8;have ak:=fE ab;have aR:P.A=A:=by rw[HP.out]
 have aT:P.c=c:=by rw[HP.out]
 have aS:P.b=b:=by rw[HP.out]
 have aa:Has (zF.sl 3) W3 [J (H ⟨n0+1,0,V⟩) ([(i':Int)]).length 1] [(i':Int)] [n0+1]:=
  ⟨qq (xs:=[(i':Int)]) (S:=[]) e1 ⟨[F I (i':Int)],[],[],[],rfl,rfl,⟨rfl,by omega,by omega,rfl⟩,⟨rfl,rfl⟩⟩ (by simp),by simp⟩
 have aP:iQ P ⟨[],0,0,U⟩ [(i':Int)] W3 V 0 [] (H ⟨n0+1,0,V⟩) 1 [n0+1]:=by
  refine⟨?_,Has.nil _ _ _,aa,(fun b hb=>by cases hb),⟨by simp,?_⟩,?_,⟨?_,(fun b hb=>by cases hb),?_⟩⟩
  ·rw[a8,aR,aT,aS,ap]
   show W3.heap[n0+1+1]?=H (C #[J A p.length c,F I b.Frames,F I b.Inline,X b.Fold,X b.Split,X (kB b f),F I words,F I 0,J V 0 0,F I 0,J (H ⟨n0+1,0,V⟩) 1 1] 271 (0,0));rw[aE.out];exact e2
  ·rw[a8];simp
  ·rw[ab];exact a7
  ·rw[ab,a8,af];omega
  ·intro b hb
   simp only[Lr] at hb;rw[ab,af];omega
 have aF:=fE aP;have aj:=Ty.up _ hx a7;have x2:=za a7 x2;have bq:=HA;rw[HA.out] at aj;rw[HA.out];clear af ap a8 ab aR aT aS aa e1 e2 aP hx;go_cut [13] from 23 to 38 (fun v wx=>∃(gs:Nat) (A3:K Mh) (c3:Nat) (S3:Q Nat),v=.pointer (H ⟨gs,0,V⟩)/\fF W3 wx/\wx.heap[gs]?=H (C #[F I (i':Int),F I (e:Int),J A3 (zq p (i':Int)).length c3,F I x'.fP.length,F I 0,J V 0 0,F I words,J V 0 0] 274 (0,0))/\Has (iH.sl 9) wx [J A3 (zq p (i':Int)).length c3] (zq p (i':Int)) S3/\(∀ b∈S3,W3.heap.size<=b)/\gs∉S3/\W3.heap.size<=gs)
 case first=>
  go_region_held3 (fun w'=>Lg w' ⟨gp,op+i'*4+2,V⟩=H (J b2 x'.fP.length b6)) ((repeat' apply Ls) <;> (first | ((repeat (first | assumption | with_reducible refine zC ?_ _ _ | with_reducible refine zo ?_ _ | with_reducible refine zb ?_));done) | (simp[go_sem];done))) (first | (go_at_call 107;(with_reducible refine(za2 (Ty.up _ aj gF) aZ).mono ?_);rw[b4.out];rintro e9 w1 ⟨rfl,aX⟩;have al:fF W3 w1:=(fF.trans (b:=_) gF aX);have x2:=za (fF.trans (b:=_) gF aX) x2) | (go_at_call 190;(with_reducible refine(zg7 (Ty.up _ aj (al.trans gF)) aZ bm).mono ?_);rintro e9 w2 ⟨A3,c3,S3,rfl,aM,be,aY⟩;have aI:fF W3 w2:=al.trans (fF.trans (b:=_) gF aY);have x2:=za (fF.trans (b:=_) gF aY) x2))
  all_goals go_wp2_with(fail)
  all_goals go_meet
  all_goals exact⟨_,A3,c3,S3,rfl,aI.trans gF,Lp w2 _,aM.fO gF,fun b hb=>LO al.size (be b hb),fun hm=>NH _ (aM.lt _ hm),aI.size⟩
 case rest=>
  obtain⟨gs,A3,c3,S3,rfl,bh,ar,b9,aU,ay,az⟩:=hcut;have aL:=aF.out.grow bh;obtain⟨r0,r1,r2,r3,r4,r5,r6,r7,rf,rl⟩:=jA ar;obtain⟨nl,ai⟩:∃ n,(zq p (i':Int)).length=n:=⟨_,rfl⟩
  obtain⟨na,ah⟩:∃ n,x'.fP.length=n:=⟨_,rfl⟩
  have bo:Ll I ((nl:Int)-(na:Int))=(nl:Int)-(na:Int):=kt (by omega);have aH:=fE ai;have aG:=fE ah;have a5:=ar;rw[ai,ah] at a5;have b3:=fE a5;rw[ai] at r2;rw[ah] at r3;have bg:n0+1+1<W3.heap.size:=by have h9:=(blt aF.out.box);rw[a1.out] at h9;exact h9
  clear r0 r1 r4 r5 r6 r7 rf rl ar a5 ai ah x2 aj;go_upto_region 3 with(fail);refine mv 13 (by kernel_rfl) (by kernel_rfl) (fun wy hgy=>?_);have r2:=za hgy r2;have r3:=za hgy r3;have am:=aL.grow hgy;have av:=am.box;rw[a1.out] at av;obtain⟨_,_,_,_,_,_,_,_,_,_,_,zf,zl⟩:=oX av;have hN:=am.num (i:=7) (v:=F I ((nl:Int)-(na:Int))) (m':=⟨[],0,(nl:Int)-(na:Int),U⟩) rfl (fun _ _ _ _ _ _ _ _ _=>rfl);have HN:=fE hN;clear hN am av aL;simp only[Mm,MN,Mr,Mt]
  repeat still_step
  refine M6 ?_;go_upto_region 4 with(fail);clear r2 r3 zf zl bo;have hN:=HN.out;rw[a1.out] at hN;have ag:=zj b3.out hgy;have an:=b9.fO hgy;generalize MH wy ⟨n0+1+1,7,V⟩ (F I ((nl:Int)-(na:Int)))=w5 at hN |-;obtain⟨aK,aQ⟩:=hN;have ag:=lO aQ (by simp only[Lr];omega) ag;have an:=an.fU aQ (fun b hb hm=>by simp only[Lr] at hm;have:=aU b hb;omega);have aW:jI P ⟨[],0,(nl:Int)-(na:Int),U⟩ [(i':Int)] w5 (P.g::([]++[n0+1])):=⟨V,0,[],_,_,_,aK,rfl⟩
  have aO:∀ b∈P.g::([]++[n0+1]),b<W3.heap.size:=fun b hb=>by
   rw[a1.out] at hb;simp only[Mw,LU,MX,Ox] at hb;omega
  have aV:iU ⟨V,0,[],A3,c3,S3⟩ ⟨gs,e,na,words⟩ (lg p (i':Int)) (J V 0 0) w5 (P.g::([]++[n0+1])):=
   ⟨by show w5.heap[gs]?=H (C #[F I (i':Int),F I (e:Int),J A3 (zq p (i':Int)).length c3,F I na,F I 0,J V 0 0,F I words,J V 0 0] 274 (0,0));rw[aH.out];exact ag,Has.nil _ _ _,an,fun hm=>by have:=aO _ hm;simp only at this;omega,(fun b hb=>by cases hb),fun b hb hm=>by have:=aO _ hm;have:=aU b hb;omega⟩
  obtain⟨_,_,_,_,_,q5,_,_,_,ql⟩:=jA ag;replace q5:Lg w5 ⟨gs,5,V⟩=H (J V ([]:Q Int).length 0):=q5;have aB:(zF.sl 3).R w5 w5.heap.size [J V ([]:Q Int).length 0] ([]:Q Int):=(Has.nil zF 3 w5).read
  have b0:Hid ((zv P.E ⟨[],0,(nl:Int)-(na:Int),U⟩ (if fb=M then 13 else 15) words i' []).fZ (0+words)=lE p b f words i'):=fE (by
   rw[a4.out,<-aE.out,<-aH.out,<-aG.out,aJ.out,Int.zero_add]
   rfl)
  have bn:fV words:=iu (by omega);have bk:fV (i':Int):=iu (by omega);have b7:fV ((⟨[],0,(nl:Int)-(na:Int),U⟩:fW).depth):=iu (by show -9223372036854775808<=(0:Int)/\(0:Int)<=9223372036854775807;omega);have b8:fV ((⟨[],0,(nl:Int)-(na:Int),U⟩:fW).depth+words):=iu (by show -9223372036854775808<=0+words/\0+words<=9223372036854775807;omega);obtain⟨code,a0⟩:∃ code:Int,(if fb=M then 13 else 15)=code:=⟨_,rfl⟩
  rw[a0] at b0;have bf:fV code:=by rw[<-a0];split <;> exact iu (by omega)
  have aw:=zd4 (code:=code) (arg:=words) (line:=(i':Int)) (change:=words) (chain:=[]) (Ac:=V) (cc:=0) (gs:=gs) aW rfl q5 aB (by simp) (by simp) bf bn bk b7 b8;rw[a1.out] at aw;cases fb
  case' true=>obtain rfl:code=13:=a0.symm
  case' false=>obtain rfl:code=15:=a0.symm
  all_goals
   clear a0
   go_upto_region 8 with(first | (go_at_call 248;(with_reducible refine aw.mono ?_);rintro e9 w7 ⟨rfl,bb⟩))
   obtain⟨L7,ac,bd,ba⟩:=bb
   replace ac:jI P ((zv P.E ⟨[],0,(nl:Int)-(na:Int),U⟩ _ words i' []).fZ (0+words)) [(i':Int)] w7 L7:=ac
   rw[b0.out] at ac
   have aq:=aV.next (by rw[a1.out];exact bd) (by rw[a1.out];exact ba)
   have aN:jF P ⟨V,0,[],A3,c3,S3⟩ ⟨gs,e,na,words⟩ [] (lE p b f words i') ([]++[(lg p (i':Int)).f]) (lg p (i':Int)) w7 V 0 [] L7:=
    ⟨JR rfl,by rw[II rfl];exact ac,aq,Has.nil _ _ _,(fun b hb=>by cases hb),⟨by simp,ay,by rw[ak.out];exact LO (a7.size) az⟩⟩
   have a3:=Cq hR (by rw[a4.out];exact hEl) 3 ⟨V,0,[],A3,c3,S3⟩ ⟨gs,e,na,words⟩ [] (lE p b f words i') (lg p (i':Int)) w7 (gs::(L7++[])) [] i' e ⟨V,0,[],L7,aN,rfl⟩ (by rw[a4.out];exact b5.out) (.inl ⟨rfl,rfl,by rw[a4.out];show (na:Int)=((zU p (i':Int)).length:Int);rw[<-aJ.out,aG.out],rfl⟩) rfl rfl rfl (by rw[a4.out];exact HM.out) (by simp[lE,zv,fW.fZ]) rfl (by rw[a4.out];exact HE.out) rfl rfl rfl (by show 0<=words;omega) (by show words<=iP 4;unfold iP;omega)
   rw[a1.out] at a3
   clear aw aV aW aK aN ac
   go_upto_region 9 with(first | (go_at_call 249;(with_reducible refine a3.mono ?_);rintro e9 w9 ⟨rfl,dep,bc⟩))
   obtain⟨L9,⟨Aj,cj,Sj,bs,ao,_⟩,_,_⟩:=bc
   have aD:Hid (kH p b f words=((zH P.E (3+1) ([]++[(lg p (i':Int)).f]) (lg p i') (lE p b f words i')).1.items,(zH P.E (3+1) ([]++[(lg p (i':Int)).f]) (lg p i') (lE p b f words i')).1.gK)):=fE (by rw[HC.out,a4.out];rfl)
   generalize (zH P.E (3+1) ([]++[(lg p (i':Int)).f]) (lg p i') (lE p b f words i')).1=MR at ao aD
   obtain⟨Ai,ci,Si,Af,cf,Sf,a9,_⟩:=ao.st
   have e9:(iv [] (MR.fZ dep)).items=MR.items:=D9 _
   have ad:=a9.its
   have a2:=a9.box
   rw[e9] at ad a2
   rw[a1.out] at a2
   obtain⟨_,_,_,_,_,_,_,q7,q8,_,_,qf,ql⟩:=oX a2
   replace q7:Lg w9 ⟨n0+1+1,7,V⟩=H (F I MR.gK):=q7
   have bi:fF w w9:=by have h:=a9.fO;rwa [ak.out] at h
   have ae:∀ b∈Si,w.heap.size<=b:=fun b hb=>by have h:=a9.low.2.1 b hb;rwa [ak.out] at h
   clear a2 e9 ao a9
   go_quiet (fail)
   go_wp2_with(fail)
   exact Ln (v:=.tuple #[J Ai MR.items.length ci,F I MR.gK]) (by simp[Ly,results226,go_sem]) rfl (show ri (kH p b f words) w _ _ from by rw[aD.out];exact⟨Ai,ci,Si,rfl,ad.fO gF,ae,bi.trans gF⟩)
theorem Ib {k:Nat} (h:xs[k]?=H x):(xs.take k).map zI++[zI x]=(xs.take (k+1)).map zI:=by
 rw[ME,h,Nu];rfl
theorem GX {W:N} {A0 A1:K Mh} {c0 c1:Nat} {S:Q Nat} (h:Has zM W [F I x.Kind,G x.Name,J A0 x.fP.length c0,J A1 x.Expr.length c1] x S) :
  ∃ S0 S1,S=S0++S1/\fV x.Kind/\x.Name.size<=9223372036854775807/\Has (iH.sl 9) W [J A0 x.fP.length c0] x.fP S0/\Has (iz.sl 159) W [J A1 x.Expr.length c1] x.Expr S1:=by
 obtain⟨hO,hN⟩:=h;obtain⟨a1,a3,S0,a2,a4,S1,a0,rfl,p0,p1,o0,o1⟩:=Az hO;simp only[NV,Nb,OJ,OT] at a0;obtain⟨⟨rfl,rfl⟩,rfl,rfl⟩:=a0;rw[Ms] at hN;exact⟨S0,S1,rfl,p0,p1,⟨o0,hN.1⟩,⟨o1,hN.2.1⟩⟩
theorem zop (hx:(zM.sl 87).R w w.heap.size [J A xs.length c] xs)(hl:xs.length<=1099511627776)(hs:∀ x∈xs,x.fP.length<=1099511627776/\x.Expr.length<=1099511627776) :
  LR prog 225 #[J A xs.length c] w (AJ (mh xs) w):=by
 rcases LH (zs xs) with hp | hp
 rotate_left
 ·have HP:=fE hp
  have HF:Hid (mh xs = []):=fE (by unfold mh;rw[Lt (by rw[hp];decide)]);clear hp;go_enter func225,ntmps225;go_wp2_with(first | (go_at_call 41;(with_reducible refine(zav hx hl hs).mono ?_);rw[HP.out];rintro e1 v1 ⟨rfl,a4⟩));refine Ln (v:=J V 0 0) (by simp[Ly,results225,go_sem]) rfl ?_;rw[HF.out];exact⟨V,0,[],rfl,Has.nil _ _ _,by simp,a4.trans gF⟩
 have HP:=fE hp;have HF:Hid (mh xs=xs.map zI):=fE (by unfold mh;rw[Lu hp]);have ae:Hid (xs.length<=60):=fE (nt hp).len;have aC:=ae.out;clear hp;go_enter func225,ntmps225;go_wp2_with(first | (go_at_call 41;(with_reducible refine(zav hx hl hs).mono ?_);rw[HP.out];rintro e1 v1 ⟨rfl,a4⟩));have aA:=Ty.up _ hx a4;go_loopw [13,3] (fun z q wr=>∃(i:Nat) (A3:K Mh) (c3:Nat) (S:Q Nat),z=F I i/\q=J A3 i c3/\i<=xs.length/\Hid (fF v1 wr)/\Hid (Has (zM.sl 87) wr [J A3 i c3] ((xs.take i).map zI) S)/\Hid (∀ b∈S,v1.heap.size<=b)) (fun z _ _=>xs.length-(Ml z).toNat)
 case atStart=>exact⟨0,_,0,[_],rfl,rfl,Lv _,fE gF,fE (Has.emp zM (zj (Lp _ _) gF)),fE (fun b hb=>by simp only[Lr] at hb;omega)⟩
 case round=>
  obtain⟨i,A3,c3,S,rfl,rfl,hi,hG,hH,hS⟩:=hrel;by_cases hlt:i<xs.length
  ·obtain⟨g2,aB,x,a7,a9,a8,aa,rfl,_,am,x0,x1,x2,x3,b0,b1,h2,h3⟩:=jb aA hlt
   have ay:(i:Int)<(xs.length:Int):=by omega
   have v0:=za hG.out x0;have aG:=za hG.out x1;have aH:=za hG.out x2;have aI:=za hG.out x3;obtain⟨ar,aj⟩:=hs x (LP am);have ao:=fE (Ib am);have aF:=hG.out.size;clear am x0 x1 x2 x3;by_cases hE0:0<x.Expr.length
   ·have q1:(x.Expr.length:Int) > 0:=by omega
    have q2:0<(x.Expr.length:Int):=by omega
    have ad:Hid (zI x=⟨x.Kind,x.Name,x.fP,mg x.Expr⟩):=fE (by unfold zI;rw[Lu hE0]);clear hE0;go_wp2_with(first | (go_at_call 246;(with_reducible refine(zjv (x:=x) b0 b1 (Ty.up _ h2 (fF.trans (b:=_) hG.out gF)) (Ty.up _ h3 (fF.trans (b:=_) hG.out gF)) ar aj).mono ?_);rintro e2 v2 ⟨B0,d0,B1,d1,SL,rfl,ah,a2,a0⟩;have hB:=zj (Lp wr (C #[F I x.Kind,G x.Name,J a7 x.fP.length a9,J a8 x.Expr.length aa] 87)) (fF.trans (b:=_) gF a0);obtain⟨k0,k1,k2,k3,kf,kl⟩:=jq hB;obtain⟨m0,m1,m2,m3,mf,ml⟩:=jq (zj hB ((fF.refl _).alloc (C #[F I x.Kind,G x.Name,J B0 x.fP.length d0,J B1 x.Expr.length d1] 87)));clear hB) | (go_at_call 247;(with_reducible refine(zon (Ty.up _ h3 (fF.trans (b:=_) hG.out (fF.trans (b:=_) gF (a0.trans gF)))) aj).mono ?_);rintro e3 v3 ⟨B2,d2,S2,rfl,ax,ac,a5⟩;obtain⟨n0,n1,n2,n3,nf,nl⟩:=jq (zj (Lp v2 (C #[F I x.Kind,G x.Name,J B0 x.fP.length d0,J B1 x.Expr.length d1] 87)) (fF.trans (b:=_) gF a5));have au:=a0.size;have a6:=a5.size;simp only[Mo] at au a6;have a3:=a2;simp only[Mo] at a3 ac;have ab:fJ [v2.heap.size] v3 (v3.setCell ⟨v2.heap.size,3,V⟩ (J B2 (mg x.Expr).length d2)):=(fJ.refl _ _).setCell (p:=⟨v2.heap.size,3,V⟩) (by simp) _;have av:=fE ((hH.out.fO (fF.trans (b:=_) gF (a0.trans (fF.trans (b:=_) gF a5)))).fU ab (fun b hb hm=>by simp at hm;have:=hH.out.lt b hb;omega));obtain⟨S0,S1,aq,p0,p1,af,aD⟩:=GX ah;have aw:=fE (yQ (x:=⟨x.Kind,x.Name,x.fP,mg x.Expr⟩) p0 p1 ((af.fO (fF.trans (b:=_) gF a5)).fU ab (fun b hb hm=>by simp at hm;have:=af.lt b hb;omega)) (ax.fU ab (fun b hb hm=>by simp at hm;have:=ac b hb;omega)) (fun b hb hm=>by have:=af.lt b hb;have:=ac b hm;omega));have an:Hid (∀ b∈S0++S2,wr.heap.size<b):=fE (fun b hb=>by rcases LG.1 hb with h | h;have:=a3 b (by rw[aq];exact LW _ h);omega;have:=ac b h;omega);clear au a6 aq) | (at_builtin;refine vA (L:=i+1) rfl (.tmp 27) (.tmp 29) AI (S:=S) (y:=⟨x.Kind,x.Name,x.fP,mg x.Expr⟩) (ec:=[F I x.Kind,G x.Name,J B0 x.fP.length d0,J B2 (mg x.Expr).length d2]) (av.out.fO gF) (aw.out.fO gF) (fun b hb hm=>by have h1:=an.out b hm;have h2:=hH.out.lt b hb;omega) rfl rfl rfl (by intro j u hu;simpa[go_sem] using hu) rfl (by omega) (by omega) ?_;intro A8 c8 W8 S8 ak ag a1));go_roundw
    case measure=>exact gL
    case rel=>
     have az:=hG.out.size;have al:=a0.size;simp only[Mo] at al a1;have ai:=hG.out.trans (fF.trans (b:=_) (fF.alloc (fF.refl wr) (C #[F I x.Kind,G x.Name,J a7 x.fP.length a9,J a8 x.Expr.length aa] 87)) (a0.trans (fF.trans (b:=_) (fF.alloc (fF.refl v2) (C #[F I x.Kind,G x.Name,J B0 x.fP.length d0,J B1 x.Expr.length d1] 87)) a5)));have ap:=ab.fO ai (fun b hb=>by simp at hb;omega);have aE:=ap.size;refine⟨i+1,A8,c8,S8,by go_num,rfl,by omega,fE (fF.trans (b:=_) (ak.fO (ap.alloc _) hS.out) gF),fE (by rw[<-ao.out,ad.out];exact ag.fO gF),fE (fun b hb=>?_)⟩;rcases a1 b hb with h | h | h
     ·exact hS.out b h
     ·have:=an.out b h;omega
     ·omega
   ·have q1:¬ ((x.Expr.length:Int) > 0):=by omega
    have q2:¬ (0<(x.Expr.length:Int)):=by omega
    have ad:Hid (zI x=x):=fE (by unfold zI;rw[Lt hE0]);clear hE0;go_wp2_with(first | (go_at_call 246;(with_reducible refine(zjv (x:=x) b0 b1 (Ty.up _ h2 (fF.trans (b:=_) hG.out gF)) (Ty.up _ h3 (fF.trans (b:=_) hG.out gF)) ar aj).mono ?_);rintro e2 v2 ⟨B0,d0,B1,d1,SL,rfl,ah,a2,a0⟩;have hB:=zj (Lp wr (C #[F I x.Kind,G x.Name,J a7 x.fP.length a9,J a8 x.Expr.length aa] 87)) (fF.trans (b:=_) gF a0);obtain⟨k0,k1,k2,k3,kf,kl⟩:=jq hB;obtain⟨m0,m1,m2,m3,mf,ml⟩:=jq (zj hB ((fF.refl _).alloc (C #[F I x.Kind,G x.Name,J B0 x.fP.length d0,J B1 x.Expr.length d1] 87)));clear hB) | (at_builtin;refine vA (L:=i+1) rfl (.tmp 27) (.tmp 29) AI (S:=S) (y:=x) (ec:=[F I x.Kind,G x.Name,J B0 x.fP.length d0,J B1 x.Expr.length d1]) (hH.out.fO (fF.trans (b:=_) gF (a0.trans gF))) (ah.fO gF) (fun b hb hm=>by have h1:=a2 b hm;have h2:=hH.out.lt b hb;simp at h1;omega) rfl rfl rfl (by intro j u hu;simpa[go_sem] using hu) rfl (by omega) (by omega) ?_;intro A8 c8 W8 S8 ak ag a1));go_roundw
    case measure=>exact gL
    case rel=>
     have ai:=hG.out.trans (fF.trans (b:=_) (fF.alloc (fF.refl wr) (C #[F I x.Kind,G x.Name,J a7 x.fP.length a9,J a8 x.Expr.length aa] 87)) (a0.trans ((fF.refl v2).alloc (C #[F I x.Kind,G x.Name,J B0 x.fP.length d0,J B1 x.Expr.length d1] 87))));refine⟨i+1,A8,c8,S8,by go_num,rfl,by omega,fE (fF.trans (b:=_) (ak.fO (ai.alloc _) hS.out) gF),fE (by rw[<-ao.out,ad.out];exact ag.fO gF),fE (fun b hb=>?_)⟩;have az:=hG.out.size;have al:=a0.size;simp only[Mo] at al a1 a2;rcases a1 b hb with h | h | h
     ·exact hS.out b h
     ·have:=a2 b h;omega
     ·omega
  ·obtain rfl:i=xs.length:=by omega
   have ay:¬ ((xs.length:Int)<(xs.length:Int)):=by omega
   go_wp2_with(fail);refine Ln (v:=J A3 xs.length c3) (by simp[Ly,results225,go_sem]) rfl ?_;rw[HF.out];refine⟨A3,c3,S,by rw[N8],?_,fun b hb=>LO a4.size (hS.out b hb),a4.trans (hG.out.trans gF)⟩;have h:=hH.out;rw[MJ] at h;rw[N8];exact h.fO gF
theorem zr2 (hx:(zM.sl 87).R w w.heap.size [J A p.length c] p)(hs:∀ x∈p,x.fP.length<=1099511627776/\x.Expr.length<=1099511627776)(hp:zs p=M)(hb:jG b=M)(hf:f<(zk p).length) :
  LR prog 195 #[J A p.length c,F I f,.agg #[F I b.Frames,F I b.Inline,X b.Fold,X b.Split]] w (ve (jY p b f) w):=by
 have hF:=nt hp;have aM:=hF.len;have aS:=hF.ki;have hl:p.length<=1099511627776:=by omega
 have a7:=hb;unfold jG at a7;rw[LC] at a7;have aB:=a7.2;have aA:=zX.1 a7.1;have aC:gW (f:Int) 0 (((zk p).length:Int)-1)=M:=zX.2 ⟨by omega,by omega⟩;have aT:Ll I (((zk p).length:Int)-1)=((zk p).length:Int)-1:=kt (by omega);have aR:(f:Int)<((zk p).length:Int):=by omega
 have ax:=fun(Lc:gC) (h:Lc.Frames=b.Frames)=>(show (bits .and I (b.Frames / 2 ^ f) 1 == 1)=kB Lc f from by unfold kB;rw[h];exact Cl aA.1 aA.2 f)
 obtain⟨i,ab⟩:∃ i:Nat,(zk p)[f]?=H (i:Int):=by
  obtain⟨g,hg⟩:∃ g,(zk p)[f]?=H g:=⟨_,Lo hf⟩
  obtain⟨i,rfl,_⟩:=vM hg;exact⟨i,hg⟩
 have HP:=fE hp;have HB:=fE hb;have av:=fE aC
 have ar:∀(q:Q fG) (hq:j9 q) (a5:tI q) (ac:(zk q)[f]?=H (i:Int)) (aq:∀ x∈q,x.fP.length<=1099511627776/\x.Expr.length<=1099511627776),∃ R1 R2,kH q b f 0=R1/\kH q b f R1.2=R2/\
   (∀(W:N) (A:K Mh) (c:Nat),(zM.sl 87).R W W.heap.size [J A q.length c] q->LR prog 226 #[J A q.length c,F I i,.agg #[F I b.Frames,F I b.Inline,X b.Fold,X b.Split],X (kB b f),F I 0] W (ri R1 W))/\
   (∀(W:N) (A:K Mh) (c:Nat),(zM.sl 87).R W W.heap.size [J A q.length c] q->LR prog 226 #[J A q.length c,F I i,.agg #[F I b.Frames,F I b.Inline,X b.Fold,X b.Split],X (kB b f),F I R1.2] W (ri R2 W)):=by
  intro q hq a5 ac aq;have ak:=(Lh.1 ac).1;obtain⟨_,_,_,h4,h5⟩:=vI (words:=0) hq aB ak ⟨by omega,by omega⟩;exact⟨_,_,rfl,rfl,fun W A c h=>zk6 h aq hq a5 hb ac ⟨by omega,by omega⟩,fun W A c h=>zk6 h aq hq a5 hb ac ⟨h4,by omega⟩⟩
 have a5:=IP hp;obtain⟨fb,aj⟩:∃ v,kB b f=v:=⟨_,rfl⟩
 have aK:(bits .and I (b.Frames / 2 ^ f) 1 == 1)=fb:=by rw[ax b rfl,aj]
 rw[aj] at ar;have HK:=fE ar;have aw:=fE a5;have aG:=fE ab;have aO:=fE hF;obtain⟨bF,bI,ay,bS⟩:=b;clear ar a5 ax hp hb aj a7 aB aC;have au:=fE (fun w=>uH (b:=⟨bF,bI,ay,bS⟩) (w:=w));cases ay with
 | false=>
  obtain⟨R1,R2,e1,e2,c1,c2⟩:=HK.out p hF.c aw.out ab hs;have HC:Hid (jY p ⟨bF,bI,U,bS⟩ f=R2.1):=fE (by unfold jY;simp only;rw[Lt (by simp),e1,e2]);have C1:=fE c1;have C2:=fE c2;clear e1 e2 c1 c2 ab hF;go_enter func195,ntmps195;go_upto_region 7 with(first | (go_at_call 41;(with_reducible refine(zav (Ty.up _ hx gF) hl hs).mono ?_);rw[HP.out];rintro e w1 ⟨rfl,a8⟩;obtain⟨b0,b1,b2,b3,bf,bl⟩:=jq (zj (Lp w (C #[F I bF,F I bI,X U,X bS] 35)) a8)) | (go_at_call 42;(with_reducible refine(au.out _).mono ?_);rw[HB.out];rintro e w2 ⟨rfl,a3⟩;have a1:fF w w2:=(fF.trans (b:=_) gF a8).trans (fF.trans (b:=_) gF a3);have b0:=za a3 b0;have b1:=za a3 b1;have b2:=za a3 b2;have b3:=za a3 b3) | (go_at_call 43;(with_reducible refine(jr _ _ _ _).mono ?_);rw[av.out];rintro e wb ⟨rfl,rfl⟩) | (go_at_call 105;(with_reducible refine(zc4 (Ty.up _ hx (a1.trans gF)) hl).mono ?_);rintro e w3 ⟨A3,c3,S3,rfl,ae,az,a0⟩;have a1:=a1.trans (fF.trans (b:=_) gF a0);have b0:=za a0 b0;have b1:=za a0 b1;have b2:=za a0 b2;have b3:=za a0 b3;obtain⟨gy,oy,y1,ag,a4,aN,_⟩:=lR ae.read hf;obtain rfl:y1=(i:Int):=(by rw[aG.out] at a4;injection a4 with h;exact h.symm);subst ag;clear a4));go_upto_region 8 with(first | (go_at_call 226;(with_reducible refine(C1.out _ _ _ (Ty.up _ hx (a1.trans gF))).mono ?_);rintro e w5 ⟨A5,c5,S5,rfl,aI,aJ,a2⟩;have b0:=za a2 b0;have b1:=za a2 b1;have b2:=za a2 b2;have b3:=za a2 b3));have aa:=a1.trans (fF.trans (b:=_) gF a2);go_wp2_with(first | (go_at_call 226;(with_reducible refine(C2.out _ _ _ (Ty.up _ (Ty.up _ hx (a1.trans gF)) (fF.trans (b:=_) gF a2))).mono ?_);rintro e w6 ⟨A6,c6,S6,rfl,ah,ai,al⟩));exact Ln (v:=J A6 R2.1.length c6) (by simp[Ly,results195,go_sem]) rfl (show ve _ w _ _ from by rw[HC.out];exact⟨A6,c6,S6,rfl,ah.fO gF,fun b hb=>LO (aa.trans gF).size (ai b hb),aa.trans ((fF.trans (b:=_) gF al).trans gF)⟩)
 | true=>
  have af:mh p=p.map zI:=by unfold mh;rw[Lu HP.out]
  have am:=hF.fold;have ad:(zk (p.map zI))[f]?=H (i:Int):=by rw[tS];exact ab
  have an:=Hg (vU p) aw.out;have ap:=Cw hF;have aD:(p.map zI).length<=1099511627776:=by rw[N8];exact hl
  have ao:=tS p;generalize p.map zI=q at af am ad an ap aD ao;have ak:f<(zk q).length:=(Lh.1 ad).1;have aE:(zk q).length=(zk p).length:=by rw[ao]
  have aH:=fE ad;obtain⟨R1,R2,e1,e2,c1,c2⟩:=HK.out q am an ad ap;have HC:Hid (jY p ⟨bF,bI,M,bS⟩ f=R2.1):=fE (by unfold jY;simp only[Nx];rw[af,e1,e2]);have aF:=fE af;have C1:=fE c1;have C2:=fE c2;have aP:=fE aE;have aL:(f:Int)<((zk q).length:Int):=by omega
  clear af am ad an ap e1 e2 c1 c2 ab hF ao aE;go_enter func195,ntmps195;go_upto_region 5 with(first | (go_at_call 41;(with_reducible refine(zav (Ty.up _ hx gF) hl hs).mono ?_);rw[HP.out];rintro e w1 ⟨rfl,a8⟩;obtain⟨b0,b1,b2,b3,bf,bl⟩:=jq (zj (Lp w (C #[F I bF,F I bI,X M,X bS] 35)) a8)) | (go_at_call 42;(with_reducible refine(au.out _).mono ?_);rw[HB.out];rintro e w2 ⟨rfl,a3⟩;have a1:fF w w2:=(fF.trans (b:=_) gF a8).trans (fF.trans (b:=_) gF a3);have b0:=za a3 b0;have b1:=za a3 b1;have b2:=za a3 b2;have b3:=za a3 b3) | (go_at_call 43;(with_reducible refine(jr _ _ _ _).mono ?_);rw[av.out];rintro e wb ⟨rfl,rfl⟩) | (go_at_call 105;(with_reducible refine(zc4 (Ty.up _ hx (a1.trans gF)) hl).mono ?_);rintro e w3 ⟨A3,c3,S3,rfl,ae,az,a0⟩;have a1:=a1.trans (fF.trans (b:=_) gF a0);have b0:=za a0 b0;have b1:=za a0 b1;have b2:=za a0 b2;have b3:=za a0 b3) | (go_at_call 225;(with_reducible refine(zop (Ty.up _ hx (a1.trans gF)) hl hs).mono ?_);rw[aF.out];rintro e w4 ⟨A4,c4,S4,rfl,a6,aQ,a9⟩;have a1:=a1.trans (fF.trans (b:=_) gF a9);have b0:=za a9 b0;have b1:=za a9 b1;have b2:=za a9 b2;have b3:=za a9 b3));have ac:=a1;go_upto_region 7 with(first | (go_at_call 105;(with_reducible refine(zc4 (Ty.up _ a6.read gF) aD).mono ?_);rintro e w3 ⟨A3,c3,S3,rfl,ae,az,a0⟩;have a1:=a1.trans (fF.trans (b:=_) gF a0);have a6:=a6.fO (fF.trans (b:=_) gF a0);have b0:=za a0 b0;have b1:=za a0 b1;have b2:=za a0 b2;have b3:=za a0 b3;obtain⟨gy,oy,y1,ag,a4,aN,_⟩:=lR ae.read ak;obtain rfl:y1=(i:Int):=(by rw[aH.out] at a4;injection a4 with h;exact h.symm);subst ag;clear a4));go_upto_region 8 with(first | (go_at_call 226;(with_reducible refine(C1.out _ _ _ (Ty.up _ a6.read gF)).mono ?_);rintro e w5 ⟨A5,c5,S5,rfl,aI,aJ,a2⟩;have b0:=za a2 b0;have b1:=za a2 b1;have b2:=za a2 b2;have b3:=za a2 b3));have aa:=a1.trans (fF.trans (b:=_) gF a2);go_wp2_with(first | (go_at_call 226;(with_reducible refine(C2.out _ _ _ (Ty.up _ (Ty.up _ a6.read gF) (fF.trans (b:=_) gF a2))).mono ?_);rintro e w6 ⟨A6,c6,S6,rfl,ah,ai,al⟩));exact Ln (v:=J A6 R2.1.length c6) (by simp[Ly,results195,go_sem]) rfl (show ve _ w _ _ from by rw[HC.out];exact⟨A6,c6,S6,rfl,ah.fO gF,fun b hb=>LO (aa.trans gF).size (ai b hb),aa.trans ((fF.trans (b:=_) gF al).trans gF)⟩)
end Go.Proofs.YtiihkapmggfjkaaGreat
