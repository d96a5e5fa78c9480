/-
  PART.
-/
import Derived.Test.YtiihkapmggfjkaaGreatM46LawMakeDebug
import Derived.Test.YtiihkapmggfjkaaGreatM47LawMakeDebug
set_option linter.unusedVariables false
set_option linter.unusedSimpArgs false
set_option maxRecDepth 100000
set_option maxHeartbeats 8000000
namespace Go.Proofs.YtiihkapmggfjkaaGreat
open Value renaming slice->J,int->F,bool->X,string->G
open IntKind renaming i64->I,wrap->Ll
open Option renaming none->V,some->H
open Obj renaming cells->C
open Bool renaming false->U,true->M
open Go renaming World->N,results->Ly,Value->LA,Calls->LR,Addr->Mh,yielded->NA
open World renaming cell?->Lg,frozen?->LD
open List renaming length_cons->LJ,length_singleton->Mj,nil_append->Mw,foldl_cons->NC,cons_append->OW
open RowKit renaming intOf->Ml
open _root_.ByteArray renaming size->M8
open Region renaming wanted->MI,ready->MK,Mode->Nz,noSelect->ND,free->Oq
open Tryz
open Go.RowKit
variable {A Al:K Mh}{L Sl:Q Nat}{W w:N}{b:gC}{c cl lo n:Nat}{hs:Q (Q LA)}{image:Int}{p:Q fG}{xs:Q fQ}{xss:Q (Q fQ)}
theorem GA:(prog.info? 78).map (fun i=>(i.zero,i.size,i.bytes))=H (H (J V 0 0),1,24):=by kernel_rfl
theorem Kd:iI prog 147 78 (jK 1) 24:=by
 obtain⟨i0,hi,a0,a1,a2⟩:=Nf GA;exact⟨underlying147,⟨i0,_,hi,a0,a1,a2,rfl⟩,by decide⟩
def uk (L:Q (Nat × Q fQ)):Q Int:=L.map fun y=>(y.1:Int)
def EC (L:Q (Nat × Q fQ))(w:N)(r:Ending)(w':N):Prop:=∃ An cn Sn Al cl hs Sl,r=.returned (.tuple #[J An L.length cn,J Al L.length cl])/\Has (zF.sl 3) w' [J An L.length cn] (uk L) Sn/\Has ((jK 1).sl 78) w' [J Al L.length cl] hs Sl/\iV w.heap.size w' (Sn++Sl) hs (L.map Prod.snd)/\(∀ b∈Sn++Sl,w.heap.size<=b)/\(∀ b∈Sn,b∉Sl)/\fF w w'
theorem zpg (hx:(zM.sl 87).R w w.heap.size [J A p.length c] p)(hs:∀ x∈p,x.fP.length<=1099511627776/\x.Expr.length<=1099511627776)(hp:zs p=M)(hb:jG b=M) :
  LR prog 112 #[J A p.length c,.agg #[F I b.Frames,F I b.Inline,X b.Fold,X b.Split],F I image] w (EC (kE p b image (zk p).length 0 0) w):=by
 have hF:=nt hp;have bQ:=hF.len;have bR:p.length<=1099511627776:=by omega
 have c3:=hF.ki;have HP:=fE hp;have HB:=fE hb;clear hp hb;obtain⟨bF,bI,a0,bS⟩:=b;have ao:Hid ((((w.alloc (C #[F I bF,F I bI,X a0,X bS] 35)).alloc (C #[] 3)).alloc (C #[] 78)).heap[w.heap.size]?=H (C #[F I bF,F I bI,X a0,X bS] 35 (0,0))):=fE (zj (Lp w _) gF)
 have ap:Hid ((((w.alloc (C #[F I bF,F I bI,X a0,X bS] 35)).alloc (C #[] 3)).alloc (C #[] 78)).heap[w.heap.size+1]?=H (C #[] 3 (0,0))):=fE (by
  have h:=Lp (w.alloc (C #[F I bF,F I bI,X a0,X bS] 35)) (C #[] 3);rw[Mo] at h
  exact zj h gF)
 have aq:Hid ((((w.alloc (C #[F I bF,F I bI,X a0,X bS] 35)).alloc (C #[] 3)).alloc (C #[] 78)).heap[w.heap.size+1+1]?=H (C #[] 78 (0,0))):=fE (by
  have h:=Lp ((w.alloc (C #[F I bF,F I bI,X a0,X bS] 35)).alloc (C #[] 3)) (C #[] 78);rw[Mo,Mo] at h
  exact h)
 go_enter func112,ntmps112;go_upto_region 2 with(fail);have aw:fF w (((w.alloc (C #[F I bF,F I bI,X a0,X bS] 35)).alloc (C #[] 3)).alloc (C #[] 78)):=gF;obtain⟨n0,an⟩:∃ n,w.heap.size=n:=⟨_,rfl⟩
 rw[an] at ao ap aq |-;generalize (((w.alloc _).alloc _).alloc _)=w3 at aw ao ap aq |-;have au:=fE an;clear an;go_wp2_with(first | (go_at_call 105;(with_reducible refine(zc4 (Ty.up _ hx (aw.trans gF)) bR).mono ?_);rintro e w4 ⟨A5,c5,S5,rfl,bK,bL,be⟩));have ag:fF w3 w4:=fF.trans (b:=_) gF be;have bB:=fE (Has.emp zF (zj ap.out ag));have bA:=fE (Has.emp (jK 1) (zj aq.out ag));have bw:=fE (aw.trans ag);have bs:=fE (zj ao.out ag);clear ao ap aq bK bL be ag aw;go_loopw [8,9,10,19] (fun z8 z9 z10 z19 wr=>∃(f:Nat) (a:Int) (acc:Q (Nat × Q fQ)) (An:K Mh) (cn:Nat) (Sn:Q Nat) (Al:K Mh) (cl:Nat) (hs:Q (Q LA)) (Sl:Q Nat),z8=J An acc.length cn/\z9=J Al acc.length cl/\z10=F I a/\z19=F I f/\f<=(zk p).length/\0<=a/\a<=12000*(f:Int)/\acc.length<=f/\Hid (fF w wr)/\Hid (wr.heap[n0]?=H (C #[F I bF,F I bI,X a0,X bS] 35 (0,0)))/\Hid (Has (zF.sl 3) wr [J An acc.length cn] (uk acc) Sn)/\Hid (Has ((jK 1).sl 78) wr [J Al acc.length cl] hs Sl)/\Hid (iV w.heap.size wr (Sn++Sl) hs (acc.map Prod.snd))/\Hid (∀ b∈Sn++Sl,n0<b)/\Hid (∀ b∈Sn,b∉Sl)/\Hid (acc++kE p ⟨bF,bI,a0,bS⟩ image ((zk p).length-f) f a=kE p ⟨bF,bI,a0,bS⟩ image (zk p).length 0 0)) (fun _ _ _ z19 _=>(zk p).length-(Ml z19).toNat)
 case atStart=>exact⟨0,0,[],_,0,[n0+1],_,0,[],[n0+1+1],rfl,rfl,rfl,rfl,Lv _,N2 _,by omega,Lv _,bw,bs,bB,bA,fE (iV.nil _ _ _),fE (fun b hb=>by simp only[OW,Mw,LU,MX,Ox] at hb;omega),fE (fun b hb hm=>by simp only[Lr] at hb hm;omega),fE rfl⟩
 case round=>
 obtain⟨f,a,acc,An,cn,Sn,Al,cl,az,Sl,rfl,rfl,rfl,rfl,hf,bd,c1,c2,hG,av,hN,hL,aI,aR,ax,hA⟩:=hrel;have aJ:n0<wr.heap.size:=(blt av.out)
 by_cases hlt:f<(zk p).length
 ·have bP:(f:Int)<((zk p).length:Int):=by omega
  have ca:Ll I ((f:Int)+1)=(f:Int)+1:=iw;obtain⟨ib,bi⟩:∃ ib,me ⟨bF,bI,a0,bS⟩ f image=ib:=⟨_,rfl⟩
  have aX:=fE (fun w'=>zpW (b:=⟨bF,bI,a0,bS⟩) (f:=f) (image:=image) (w:=w') (by omega));have ar:=fE bi;obtain⟨b0,b1,b2,b3,bf,bl⟩:=jq av.out;clear bi;cases ib with
  | false=>
   have ad:=fE (JD (p:=p) (a:=a) hlt ar.out);go_wp2_with(first | (go_at_call 193;(with_reducible refine(aX.out _).mono ?_);rw[ar.out];rintro e w6 ⟨rfl,a1⟩));clear b0 b1 b2 b3 bf bl;go_roundw;exact⟨f+1,a,acc,An,cn,Sn,Al,cl,az,Sl,rfl,rfl,rfl,by go_num,by omega,bd,by omega,by omega,fE (hG.out.trans a1),fE (zj av.out a1),fE (hN.out.fO a1),fE (hL.out.fO a1),fE (aI.out.fO a1),aR,ax,fE (by rw[<-hA.out,ad.out])⟩;exact gL
  | true=>
   have ad:=fE (Il (p:=p) (a:=a) hlt ar.out);obtain⟨a7,an,bm⟩:=uC HP.out HB.out hlt;have aB:=fun(W:N) (h:(zM.sl 87).R W W.heap.size [J A p.length c] p)=>zr2 (w:=W) (A:=A) (c:=c) h hs HP.out HB.out hlt;generalize jY p ⟨bF,bI,a0,bS⟩ f=its at ad a7 an bm aB;have bv:=fE aB;have aC:=fE a7;have bM:0<=a/\a<=100000:=⟨bd,by omega⟩
   clear aB a7;go_upto_region 8 with(first | (go_at_call 193;(with_reducible refine(aX.out _).mono ?_);rw[ar.out];rintro e w6 ⟨rfl,a1⟩;have b0:=za a1 b0;have b1:=za a1 b1;have b2:=za a1 b2;have b3:=za a1 b3) | (go_at_call 195;(with_reducible refine(bv.out _ (Ty.up _ hx (hG.out.trans (a1.trans gF)))).mono ?_);rintro e w7 ⟨bW,c0,bY,rfl,ah,aL,aO⟩) | (go_at_call 194;(with_reducible refine(zm5 ah.read aC.out bm bM).mono ?_);rintro e w8 ⟨A8,c8,cb,S8,rfl,aH,aK,bb,bg⟩));have aQ:fF wr w8:=(a1.trans (fF.trans (b:=_) gF aO)).trans (fF.trans (b:=_) gF bg);have bn:wr.heap.size<=w7.heap.size:=(a1.trans (fF.trans (b:=_) gF aO)).size;have aY:=fE (kM.of aH aK bb);obtain⟨m,hm⟩:∃ m,its.length=m+1:=⟨its.length-1,by omega⟩
   obtain⟨xl,bp,bo⟩:=G2 (a:=a) hm;have aT:(jD its a).length=m+1:=by rw[BT,hm]
   obtain⟨gq,oq,xq,aA,aF,bJ,c4,aW,y0,y1,y2,y3,y4,y5,y6,y7,cc,cd,_⟩:=l2 (aK.read aH rfl) (k:=m) (by omega);obtain rfl:xq=xl:=by rw[bp] at aW;injection aW with h;exact h.symm
   subst bJ;have bE:=fE bo;have b4:=fE aT;have bN:=Ec its a;have bT:Ll I (xq.Offset+zA xq.Item.Op.Code)=xq.Offset+zA xq.Item.Op.Code:=iw;have bU:Ll I ((m:Int)+1-1)=(m:Int):=by rw[M7];exact iw
   have aV:Ll I (m:Int)=(m:Int):=iw;have c6:(m:Int)<(m:Int)+1:=by omega
   have bO:fV (f:Int):=⟨by omega,by omega⟩
   have c7:m+1<=2400:=by omega
   rw[aT];clear b0 b1 b2 b3 bf bl a1 aO bg ah aL aH aK bb bp aW aT hm bo;go_upto_region 9 with(fail);have eb:=Lp w8 (C #[F I xq.Offset,F I xq.Item.Op.Code,F I xq.Item.Op.Arg,F I xq.Item.fN,X xq.Item.Start,J aA xq.Item.fH.length aF,F I xq.Item.fK,X xq.Item.fI] 133);have aP:fF wr (w8.alloc (C #[F I xq.Offset,F I xq.Item.Op.Code,F I xq.Item.Op.Arg,F I xq.Item.fN,X xq.Item.Start,J aA xq.Item.fH.length aF,F I xq.Item.fK,X xq.Item.fI] 133)):=aQ.alloc _;have ac:fF w8 (w8.alloc (C #[F I xq.Offset,F I xq.Item.Op.Code,F I xq.Item.Op.Arg,F I xq.Item.fN,X xq.Item.Start,J aA xq.Item.fH.length aF,F I xq.Item.fK,X xq.Item.fI] 133)):=(fF.refl _).alloc _;obtain⟨b6,al⟩:∃ g,w8.heap.size=g:=⟨_,rfl⟩
   rw[al] at eb |-;generalize w8.alloc _=Y at eb aP ac |-;obtain⟨o0,o1,_,_,_,_,_,_,_,_⟩:=jA eb;clear y0 y1 y2 y3 y4 y5 y6 y7 al eb;go_region_held3 (fun w'=>Lg w' ⟨b6,0,V⟩=H (F I xq.Offset)/\Lg w' ⟨b6,1,V⟩=H (F I xq.Item.Op.Code)) ((repeat' apply Ls) <;> (first | ((repeat (first | assumption | with_reducible refine zC ?_ _ _ | with_reducible refine zo ?_ _ | with_reducible refine zb ?_));done) | (simp[go_sem];done))) (first | (go_at_call 114;(with_reducible refine(zcV _ _).mono ?_);rintro e w9 ⟨rfl,rfl⟩))
   all_goals go_upto_region 10 with(fail)
   have a6:=aP.drew;have ab:=ac.drew;clear o0 o1 aP ac;generalize World.drew Y=Zw at a6 ab |-;obtain⟨PF,ba⟩:∃ l,jD its a=l:=⟨_,rfl⟩
   rw[ba] at ad aY b4;have a3:=aR.out;have aS:w.heap.size=n0:=au.out;have aa:∀ b∈Sn++Sl,b<wr.heap.size:=fun b hb=>(LG.1 hb).elim (hN.out.lt b) (hL.out.lt b);have bV:=hG.out.size;have b9:=hN.out.fO a6;have b8:=hL.out.fO a6;have aU:=(aI.out.fO a6).snoc (aY.out.fO ab) (LO bV bn) ab.size (fun b hb=>.inl (Li (aa b hb) bn));rw[b4.out] at aU;have a4:Hid (xq.Offset+zA xq.Item.Op.Code=kF its a):=bE;obtain⟨a2,aM⟩:∃ v,xq.Offset+zA xq.Item.Op.Code=v:=⟨_,rfl⟩
   rw[aM] at a4 |-;have bX:=fE aM;have bC:=fE aU;have bD:=fE (hG.out.trans a6);have bu:=fE (zj av.out a6);have bz:=fE b8;have aE:=fE aa;have bj:n0<Zw.heap.size:=Li aJ a6.size;clear aS aM bT bU aV aU b8 aa ba;go_upto_region 11 with(first | (at_builtin;refine zr (L:=acc.length+1) rfl (.tmp 47) (.tmp 49) kJ zP (b9.fO gF) (W1:=w) (B:=0) (ec:=[F I (f:Int)]) (y:=(f:Int)) (vp _ _ bO) rfl rfl rfl (by intro j u hu;simpa[go_sem] using hu) rfl (by omega) (by omega) ?_;intro bq bG af ae ay ai a8));have b7:Has ((jK 1).sl 78) af [J Al acc.length cl] az Sl:=(bz.out.fO gF).fU ay (fun b hb hm=>ax.out b hm hb);have aj:=(bC.out.fO (W':=_) gF).fU (L':=ae++Sl) (ay.mono (fun b hb=>LW _ hb)) (fun b hb=>(LG.1 hb).elim (fun h=>(a8 b h).imp (fun h=>LW _ h) id) (fun h=>.inl (Mc _ h)));have am:∀ b∈ae,n0<b:=fun b hb=>(a8 b hb).elim (fun h=>a3 b (LW _ h)) (fun h=>Li bj (LO (fF.size gF) h));have bh:fF w af:=ay.fO (bD.out.trans gF) (fun b hb=>by have h9:=a3 b (LW _ hb);have:=au.out;omega);have aN:=(ay.block n0 (Li bj (fF.size gF)) (fun hm=>NH _ (a3 _ (LW _ hm)))).trans (zj bu.out gF);have ak:∀ b∈ae,b∉Sl:=fun b hb hm=>(a8 b hb).elim (fun h=>ax.out b h hm) (fun h=>by have h1:=aE.out b (Mc _ hm);have h2:=a6.size;have h3:=LO (fF.size (b:=_) (show fF Zw _ from gF)) h;omega);have bk:n0<af.heap.size:=(blt aN)
   have aZ:=fE ai;have aD:=fE aj;have bx:=fE bh;have bt:=fE aN;clear ai aj bh aN b9;go_wp2_with(first | (at_builtin;refine zr (L:=acc.length+1) rfl (.tmp 51) (.tmp 53) Kd (tt 1) (b7.fO gF) (W1:=w) (B:=0) (ec:=[J (H ⟨gq,oq,V⟩) (m+1) c8]) (y:=[J (H ⟨gq,oq,V⟩) (m+1) c8]) ⟨rfl,rfl,by intro u hu;simp only[LU,MX,Ox] at hu;rcases hu with rfl;rfl⟩ rfl rfl rfl (by intro j u hu;simpa[go_sem] using hu) rfl (by omega) (by omega) ?_;intro br bH bZ b5 a5 aG a9));have bc:∀ b∈Sl,b<af.heap.size:=fun b hb=>b7.lt b hb;go_roundw
   case measure=>exact gL
   case rel=>exact⟨f+1,a2,acc++[(f,PF)],bq,bG,ae,br,bH,az++[[J (H ⟨gq,oq,V⟩) (m+1) c8]],b5,by rw[Lj];rfl,by rw[Lj];rfl,rfl,by go_num,by omega,by have:=a4.out;omega,by have:=a4.out;omega,by rw[Lj,Mj];omega,
     fE (a5.fO (bx.out.trans gF) (fun b hb=>by have h9:=a3 b (Mc _ hb);have:=au.out;omega)),
     fE ((a5.block n0 (Li bk (fF.size gF)) (fun hm=>NH _ (a3 _ (Mc _ hm)))).trans (zj bt.out gF)),
     fE (by rw[Lj,Mj];unfold uk;rw[Nu];exact(aZ.out.fO gF).fU a5 (fun b hb hm=>ak b hb hm)),
     fE (by rw[Lj,Mj];exact aG),
     fE (by rw[Nu];exact(aD.out.fO (W':=_) gF).fU (L':=ae++b5) (a5.mono (fun b hb=>Mc _ hb)) (fun b hb=>(LG.1 hb).elim (fun h=>.inl (LW _ h)) (fun h=>(a9 b h).imp (fun h=>Mc _ h) id))),
     fE (fun b hb=>(LG.1 hb).elim (am b) (fun h=>(a9 b h).elim (fun h=>a3 b (Mc _ h)) (fun h=>Li bk (LO (fF.size gF) h)))),
     fE (fun b hb hm=>(a9 b hm).elim (ak b hb) (fun h=>by have h1:=aZ.out.lt b hb;have h3:=LO (fF.size (b:=_) (show fF af _ from gF)) h;omega)),
     fE (by rw[<-hA.out,ad.out,a4.out,LZ];rfl)⟩
 ·obtain rfl:f=(zk p).length:=by omega
  have bP:¬ (((zk p).length:Int)<((zk p).length:Int)):=by omega
  have HQ:Hid (acc=kE p ⟨bF,bI,a0,bS⟩ image (zk p).length 0 0):=fE (by rw[<-hA.out,Mq];simp[kE]);go_wp2_with(fail);exact Ln (v:=.tuple #[J An acc.length cn,J Al acc.length cl]) (by simp[Ly,results112,go_sem]) rfl (show EC _ w _ _ from by rw[<-HQ.out];exact⟨An,cn,Sn,Al,cl,az,Sl,rfl,hN.out,hL.out,aI.out,fun b hb=>by have h9:=aR.out b hb;have:=au.out;omega,ax.out,hG.out⟩)
theorem wC {p:Q fG}{b:gC}{image:Int}(hp:zs p=M)(hb:jG b=M):∀(n f:Nat)(a:Int),f+n<=(zk p).length->(kE p b image n f a).length<=n/\∀ y∈kE p b image n f a,y.2.length<=2400/\0<y.2.length/\f<=y.1/\y.1<f+n
 | 0,_,_,_=>⟨Lz _,fun y hy=>by cases hy⟩
 | n+1,f,a,h=>by
  by_cases hi:me b f image=M
  ·have e:kE p b image (n+1) f a=(f,jD (jY p b f) a)::kE p b image n (f+1) (kF (jY p b f) a):=by
    show (if _ then _ else _)=_;rw[Lu hi]
   obtain⟨h1,h2⟩:=wC (image:=image) hp hb n (f+1) (kF (jY p b f) a) (by omega);rw[e];refine⟨by rw[LJ];omega,fun y hy=>?_⟩;rcases LU.1 hy with rfl | hy
   ·obtain⟨_,g1,g2⟩:=uC hp hb (show f<(zk p).length by omega)
    simp only[BT];omega
   ·have:=h2 y hy;omega
  ·have e:kE p b image (n+1) f a=kE p b image n (f+1) a:=by
    show (if _ then _ else _)=_;rw[Lt hi]
   obtain⟨h1,h2⟩:=wC (image:=image) hp hb n (f+1) a (by omega);rw[e];exact⟨by omega,fun y hy=>by have:=h2 y hy;omega⟩
theorem gQ.more {l u:Nat} {S S2:Q Nat} {rs rs2:Q (Q LA)} {ys:Q fQ} (h:gQ lo W S rs xs)(hlen:rs2.length=ys.length)(h5:∀(i:Nat)(r:Q LA)(x:fQ),rs2[i]?=H r->ys[i]?=H x->∃ A0 c0 Sc,r = [F I x.Offset,F I x.Item.Op.Code,F I x.Item.Op.Arg,F I x.Item.fN,X x.Item.Start,J A0 x.Item.fH.length c0,F I x.Item.fK,X x.Item.fI]/\
  (zF.sl 3).O W [J A0 x.Item.fH.length c0] x.Item.fH Sc/\(∀ b∈Sc,b∉S2/\l<=b/\b<u)/\fV x.Offset/\fV x.Item.Op.Code/\fV x.Item.Op.Arg/\fV x.Item.fN/\fV x.Item.fK) (hl:lo<=l) (hu:∀ b∈S,u<=b):gQ lo W S (rs++rs2) (xs++ys):=by
 refine⟨by rw[Lj,Lj,h.1,hlen],fun i r x k1 k2=>?_⟩;by_cases hi:i<rs.length
 ·rw[Md hi] at k1
  rw[Md (by rw[<-h.1];exact hi)] at k2;exact h.2 i r x k1 k2
 ·rw[LV (by omega)] at k1
  rw[LV (by rw[<-h.1];omega),<-h.1] at k2;obtain⟨A0,c0,Sc,g1,g2,g3,g4⟩:=h5 _ r x k1 k2;exact⟨A0,c0,Sc,g1,g2,fun b hb=>⟨fun hm=>by have h1:=(g3 b hb).2.2;have h2:=hu b hm;omega,by have:=(g3 b hb).2.1;omega⟩,g4⟩
theorem JY (h:iV lo W L hs xss)(hH:Has ((jK 1).sl 78) W [J Al n cl] hs Sl){j:Nat}{xs:Q fQ}(hj:xss[j]?=H xs) :
  ∃ g off A c rs S l u,Al=H ⟨g,off,V⟩/\Lg W ⟨g,off+j,V⟩=H (J A xs.length c)/\lo<=l/\u<=W.heap.size/\Has ((jK 8).sl 133) W [J A xs.length c] rs S/\gQ l W S rs xs/\
   ∀(i:Nat) (r:Q LA) (x:fQ),rs[i]?=H r->xs[i]?=H x->∃ A0 c0 Sc,r = [F I x.Offset,F I x.Item.Op.Code,F I x.Item.Op.Arg,F I x.Item.fN,X x.Item.Start,J A0 x.Item.fH.length c0,F I x.Item.fK,X x.Item.fI]/\
  (zF.sl 3).O W [J A0 x.Item.fH.length c0] x.Item.fH Sc/\(∀ b∈Sc,b∉S/\l<=b/\b<u)/\fV x.Offset/\fV x.Item.Op.Code/\fV x.Item.Op.Arg/\fV x.Item.fN/\fV x.Item.fK:=by
 have a0:=(Lh.1 hj).1;obtain⟨g,off,hd,ec,h1,hB,h2,h3,h4⟩:=om hH.read (show j<hs.length by rw[h.1];exact a0);obtain⟨l,u,k1,k2,k3,k4⟩:=h.2 j hd xs h2 hj;obtain⟨A,c,rs,S,g1,g2,g3,g4,g5⟩:=k3;obtain⟨k5,_,_⟩:=h3;have hc:=h4 0 (J A xs.length c) (by rw[k5,g1];rfl);rw[show off+j*(jK 1).size+0=off+j from by show off+j*1+0=off+j;omega] at hc;exact⟨g,off,A,c,rs,S,l,u,h1,hc,k1,k2,g2,g3,g5⟩
theorem zoM (hx:(zM.sl 87).R w w.heap.size [J A p.length c] p)(hll:p.length<=1099511627776)(hs:∀ x∈p,x.fP.length<=1099511627776/\x.Expr.length<=1099511627776) :
  LR prog 45 #[J A p.length c,.agg #[F I b.Frames,F I b.Inline,X b.Fold,X b.Split],F I image] w (py (zK p b image) w):=by
 by_cases hc:zs p=M/\jG b=M/\gW image 0 1=M
 ·obtain⟨hp,hb,hi⟩:=hc
  have HE:Hid ((kE p b image (zk p).length 0 0).flatMap Prod.snd=zK p b image):=fE (by rw[xR];unfold zK;rw[Lu ⟨hp,hb,hi⟩]);have aP:=(nt hp).ki;obtain⟨aJ,ae⟩:=wC (image:=image) hp hb (zk p).length 0 0 (by omega);have an:=fE (fun(W:N) (h:(zM.sl 87).R W W.heap.size [J A p.length c] p)=>zpg (image:=image) (w:=W) (A:=A) (c:=c) h hs hp hb);generalize kE p b image (zk p).length 0 0=LL at HE aJ ae an;have aB:=fE ae;have HP:=fE hp;have HB:=fE hb;have HI:=fE hi;clear hp hb hi ae;obtain⟨bF,bI,a3,bS⟩:=b;have a7:=fE (fun w=>uH (b:=⟨bF,bI,a3,bS⟩) (w:=w));go_enter func45,ntmps45;go_upto_region 4 with(first | (go_at_call 41;(with_reducible refine(zav (Ty.up _ hx gF) hll hs).mono ?_);rw[HP.out];rintro e w1 ⟨rfl,a0⟩;obtain⟨b0,b1,b2,b3,bf,bl⟩:=jq (zj (Lp w (C #[F I bF,F I bI,X a3,X bS] 35)) a0)) | (go_at_call 42;(with_reducible refine(a7.out _).mono ?_);rw[HB.out];rintro e w2 ⟨rfl,a1⟩;have a2:fF w w2:=(fF.trans (b:=_) gF a0).trans (fF.trans (b:=_) gF a1);have b0:=za a1 b0;have b1:=za a1 b1;have b2:=za a1 b2;have b3:=za a1 b3) | (go_at_call 43;(with_reducible refine(jr _ _ _ _).mono ?_);rw[HI.out];rintro e wb ⟨rfl,rfl⟩) | (go_at_call 112;(with_reducible refine(an.out _ (Ty.up _ hx (a2.trans gF))).mono ?_);rintro e w5 ⟨An,cn,Sn,Al,cl,aS,Sl,rfl,aq,ap,a6,al,ak,ax⟩));have a5:fF w w5:=a2.trans (fF.trans (b:=_) gF ax);have e9:=Lp w5 (C #[] 133);have aA:=fE ap;have aC:=fE a6;have af:=aq;clear b0 b1 b2 b3 bf bl aq ap a6 ak ax al af;go_wp2_with(fail);go_loopw [9,35] (fun z9 z35 wr=>∃(j:Nat) (rs:Q (Q LA)) (acc:Q fQ) (A7:K Mh) (c7:Nat) (S7:Q Nat),z9=J A7 rs.length c7/\z35=F I j/\j<=LL.length/\rs.length<=2400*j/\Hid (fF w5 wr)/\Hid (∀ b∈S7,w5.heap.size<=b)/\Hid (Has ((jK 8).sl 133) wr [J A7 rs.length c7] rs S7)/\Hid (gQ w.heap.size wr S7 rs acc)/\Hid (acc++(LL.drop j).flatMap Prod.snd=zK p ⟨bF,bI,a3,bS⟩ image)) (fun _ z35 _=>LL.length-(Ml z35).toNat)
  case atStart=>exact⟨0,[],[],_,0,[w5.heap.size],rfl,rfl,Lv _,by simp,fE gF,fE (fun b hb=>by simp only[Lr] at hb;omega),fE (Has.emp (jK 8) e9),fE (gQ.nil _ _ _),fE HE.out⟩
  case round=>
   obtain⟨j,rs,acc,A7,c7,S7,rfl,rfl,hj,aR,hG,aa,au,a9,hA⟩:=hrel;by_cases hjl:j<LL.length
   ·have aK:(j:Int)<(LL.length:Int):=by omega
    have aT:Ll I ((j:Int)+1)=(j:Int)+1:=iw;obtain⟨y,hy⟩:∃ y,LL[j]?=H y:=⟨_,Lo hjl⟩
    obtain⟨g,aU,Ay,cy,am,S2,l,u,aH,aj,aL,aN,ad,ar,ao⟩:=JY aC.out aA.out (j:=j) (xs:=y.2) (by rw[NX,hy];rfl);have aO:=aB.out y (LP hy);have aj:=za hG.out aj
    have aw:LL.drop j=y::LL.drop (j+1):=by
     obtain⟨h1,rfl⟩:=Lh.1 hy;exact LI h1
    obtain⟨n2,ab⟩:∃ n,y.2.length=n:=⟨_,rfl⟩
    have a4:am.length=n2:=by rw[<-ab];exact ar.1
    rw[ab] at aj ad aO;have aF:=fE (ad.fO hG.out);have aE:=fE ao;have a8:=fE a4;have aD:=fE ab;have az:=fE aw;have aQ:=a5.size;subst aH;clear hy aw ab a4 ar ao ad;go_wp2_with(first | (at_builtin;refine qH (L:=rs.length+n2) rfl (.tmp 39) (.tmp 40) vg (tt 8) (au.out.fO gF) aF.out.read rfl rfl rfl rfl (by omega) (by omega) ?_;intro A8 c8 W8 S8 ay aI av));go_roundw
    case measure=>exact gL
    case rel=>
     have hq:∀(i:Nat) (r:Q LA) (x:fQ),am[i]?=H r->y.2[i]?=H x->∃ A0 c0 Sc,r = [F I x.Offset,F I x.Item.Op.Code,F I x.Item.Op.Arg,F I x.Item.fN,X x.Item.Start,J A0 x.Item.fH.length c0,F I x.Item.fK,X x.Item.fI]/\
  (zF.sl 3).O wr [J A0 x.Item.fH.length c0] x.Item.fH Sc/\(∀ b∈Sc,b∉S2/\l<=b/\b<u)/\fV x.Offset/\fV x.Item.Op.Code/\fV x.Item.Op.Arg/\fV x.Item.fN/\fV x.Item.fK:=fun i r x k1 k2=>by
      obtain⟨A0,c0,Sc,g1,g2,g3,g4⟩:=aE.out i r x k1 k2;exact⟨A0,c0,Sc,g1,Ty.jl _ g2 hG.out,g3,g4⟩
     have aM:=gQ.more (l:=l) (u:=u) a9.out (by rw[a8.out,aD.out]) hq (by have:=a2.size;omega) (fun b hb=>LO aN (aa.out b hb));exact⟨j+1,rs++am,acc++y.2,A8,c8,S8,by rw[Lj,a8.out],by go_num,by omega,by rw[Lj,a8.out];omega,fE (ay.fO (hG.out.trans gF) aa.out),fE (fun b hb=>(av b hb).elim (aa.out b) (fun h=>LO hG.out.size h)),fE (by rw[Lj,a8.out];exact aI),fE (aM.fU ay av),fE (by rw[<-hA.out,az.out,Od,LZ])⟩
   ·obtain rfl:j=LL.length:=by omega
    have aK:¬ ((LL.length:Int)<(LL.length:Int)):=by omega
    have aG:Hid (acc=zK p ⟨bF,bI,a3,bS⟩ image):=fE (by rw[<-hA.out,LY];simp);go_wp2_with(fail);exact Ln (v:=J A7 rs.length c7) (by simp[Ly,results45,go_sem]) rfl (show py _ w _ _ from by rw[<-aG.out];exact⟨A7,c7,rs,S7,by rw[a9.out.1],by rw[<-a9.out.1];exact au.out,a9.out,fun b hb=>LO a5.size (aa.out b hb),a5.trans hG.out⟩)
 ·have HE:Hid (zK p b image = []):=fE (by unfold zK;rw[Lt hc])
  obtain⟨bp,ai⟩:∃ v,zs p=v:=⟨_,rfl⟩
  obtain⟨bb,ag⟩:∃ v,jG b=v:=⟨_,rfl⟩
  obtain⟨bi,ah⟩:∃ v,gW image 0 1=v:=⟨_,rfl⟩
  have ac:(bp && (bb && bi))=U:=by
   rw[<-ai,<-ag,<-ah];rcases LH (zs p && (jG b && gW image 0 1)) with h | h
   ·simp only[LC] at h
    exact absurd h hc
   ·exact h
  have HP:=fE ai;have HB:=fE ag;have HI:=fE ah;clear ai ag ah hc;obtain⟨bF,bI,a3,bS⟩:=b;have a7:=fE (fun w=>uH (b:=⟨bF,bI,a3,bS⟩) (w:=w));go_enter func45,ntmps45;cases bp with
  | false=>
   clear ac;go_wp2_with(first | (go_at_call 41;(with_reducible refine(zav (Ty.up _ hx gF) hll hs).mono ?_);rw[HP.out];rintro e w1 ⟨rfl,a0⟩;have a2:fF w w1:=fF.trans (b:=_) gF a0));exact Ln (v:=J V 0 0) (by simp[Ly,results45,go_sem]) rfl (show py _ w _ _ from by rw[HE.out];exact⟨V,0,[],[],rfl,Has.nil _ _ _,gQ.nil _ _ _,(fun b hb=>by cases hb),a2.trans gF⟩)
  | true=>
   cases bb with
   | false=>
    clear ac;go_wp2_with(first | (go_at_call 41;(with_reducible refine(zav (Ty.up _ hx gF) hll hs).mono ?_);rw[HP.out];rintro e w1 ⟨rfl,a0⟩;obtain⟨b0,b1,b2,b3,bf,bl⟩:=jq (zj (Lp w (C #[F I bF,F I bI,X a3,X bS] 35)) a0)) | (go_at_call 42;(with_reducible refine(a7.out _).mono ?_);rw[HB.out];rintro e w2 ⟨rfl,a1⟩;have a2:fF w w2:=(fF.trans (b:=_) gF a0).trans (fF.trans (b:=_) gF a1)));exact Ln (v:=J V 0 0) (by simp[Ly,results45,go_sem]) rfl (show py _ w _ _ from by rw[HE.out];exact⟨V,0,[],[],rfl,Has.nil _ _ _,gQ.nil _ _ _,(fun b hb=>by cases hb),a2.trans gF⟩)
   | true=>
    cases bi with
    | false=>
     clear ac;go_wp2_with(first | (go_at_call 41;(with_reducible refine(zav (Ty.up _ hx gF) hll hs).mono ?_);rw[HP.out];rintro e w1 ⟨rfl,a0⟩;obtain⟨b0,b1,b2,b3,bf,bl⟩:=jq (zj (Lp w (C #[F I bF,F I bI,X a3,X bS] 35)) a0)) | (go_at_call 42;(with_reducible refine(a7.out _).mono ?_);rw[HB.out];rintro e w2 ⟨rfl,a1⟩;have a2:fF w w2:=(fF.trans (b:=_) gF a0).trans (fF.trans (b:=_) gF a1)) | (go_at_call 43;(with_reducible refine(jr _ _ _ _).mono ?_);rw[HI.out];rintro e wb ⟨rfl,rfl⟩));exact Ln (v:=J V 0 0) (by simp[Ly,results45,go_sem]) rfl (show py _ w _ _ from by rw[HE.out];exact⟨V,0,[],[],rfl,Has.nil _ _ _,gQ.nil _ _ _,(fun b hb=>by cases hb),a2.trans gF⟩)
    | true=>exact absurd ac (by decide)
theorem yZ (p:Q fG)(b:gC)(image:Int):∀(n f:Nat)(a:Int),∀ y∈kE p b image n f a,y.1<f+n
 | 0,_,_,y,h=>by cases h
 | n+1,f,a,y,h=>by
  unfold kE at h;split at h
  ·rcases LU.1 h with rfl | h
   ·show f<f+(n+1)
    omega
   ·have:=yZ p b image n _ _ y h
    omega
  ·have:=yZ p b image n _ _ y h
   omega
theorem JP {k:Nat} {x:fQ} (h:xs[k]?=H x):lh (l7 (xs.take (k+1)))=lh (l7 (xs.take k))++jE x.Item.Op:=by
 unfold l7;rw[ME,h,Option.toList_some,Nu,CO];show _++(jE x.Item.Op++lh [])=_;rw[show lh []=emp from rfl,Am]
theorem Kp {g7:Nat} (h:iV lo W L hs xss)(hH:Has ((jK 1).sl 78) W [J Al n cl] hs Sl){j:Nat}{xs:Q fQ}(hj:xss[j]?=H xs)(hg:g7<lo)(hSl:∀ b∈Sl,lo<=b) :
  ∃ A c,∀ W',fJ [g7] W W'->(∃ g off,Al=H ⟨g,off,V⟩/\Lg W' ⟨g,off+j,V⟩=H (J A xs.length c))/\(oH.sl 133).R W' W'.heap.size [J A xs.length c] xs:=by
 have a4:=(Lh.1 hj).1;have a2:j<hs.length:=by rw[h.1];exact a4
 obtain⟨hd,a1⟩:∃ hd,hs[j]?=H hd:=⟨_,Lo a2⟩
 obtain⟨l,u,k1,k2,k3,k4⟩:=h.2 j hd xs a1 hj;obtain⟨A,c,he,_⟩:=k3.read;refine⟨A,c,fun W' ho=>?_⟩;obtain⟨A',c',a0,hr⟩:=(k3.fU ho (fun b hb=>by simp only[Lr] at hb;omega)).read;rw[he] at a0;simp only[NV,Nb,OT,OJ] at a0;obtain⟨rfl,rfl⟩:=a0;obtain⟨g,off,a3,ec,h1,hB,h2,h3,h4⟩:=om (hH.fU ho (fun b hb hm=>by simp only[Lr] at hm;have:=hSl b hb;omega)).read a2;obtain rfl:a3=hd:=by rw[a1] at h2;injection h2 with h2;exact h2.symm
 obtain⟨k5,_,_⟩:=h3;have hc:=h4 0 (J A xs.length c) (by rw[k5,he];rfl);rw[show off+j*(jK 1).size+0=off+j from by show off+j*1+0=off+j;omega] at hc;exact⟨⟨g,off,h1,hc⟩,hr⟩
theorem pH {g:Prop} (f:g:=by
  obtain⟨r0,r1,_,_⟩:=lM e5
  exact Ln (v:=.agg #[G ⟨#[]⟩,J V 0 0]) (by simp[Ly,results44,go_sem,r0,r1]) rfl (show vm _ w _ _ from by rw[HE.out];exact⟨V,0,[],rfl,Has.nil _ _ _,(fun b hb=>by cases hb),hgo⟩)):g:=f
theorem zn6 (hx:(zM.sl 87).R w w.heap.size [J A p.length c] p)(hll:p.length<=1099511627776)(hs:∀ x∈p,x.fP.length<=1099511627776/\x.Expr.length<=1099511627776) :
  LR prog 44 #[J A p.length c,.agg #[F I b.Frames,F I b.Inline,X b.Fold,X b.Split],F I image] w (vm (lD p b image) w):=by
 obtain⟨bF,bI,a5,bS⟩:=b;have EB:Hid (((w.alloc (C #[F I bF,F I bI,X a5,X bS] 35)).alloc (C #[G emp,J V 0 0] 58)).heap[w.heap.size]?=H (C #[F I bF,F I bI,X a5,X bS] 35 (0,0))):=fE (zj (Lp w _) gF);have aD:Hid (((w.alloc (C #[F I bF,F I bI,X a5,X bS] 35)).alloc (C #[G emp,J V 0 0] 58)).heap[w.heap.size+1]?=H (C #[G emp,J V 0 0] 58 (0,0))):=fE (by have h:=Lp (w.alloc (C #[F I bF,F I bI,X a5,X bS] 35)) (C #[G emp,J V 0 0] 58);rw[Mo] at h;exact h);have aL:=fE (fun w=>uH (b:=⟨bF,bI,a5,bS⟩) (w:=w));by_cases hc:zs p=M/\jG ⟨bF,bI,a5,bS⟩=M/\gW image 0 1=M
 ·obtain⟨hp,hb,hi⟩:=hc
  have cH:=(nt hp).ki;have co:=(nt hp).len;obtain⟨c2,aS⟩:=wC (image:=image) hp hb (zk p).length 0 0 (by omega);have aT:=yZ p ⟨bF,bI,a5,bS⟩ image (zk p).length 0 0
  have aM:Hid (lD p ⟨bF,bI,a5,bS⟩ image=⟨((kE p ⟨bF,bI,a5,bS⟩ image (zk p).length 0 0).foldl (oQ p) (emp,[])).1,((kE p ⟨bF,bI,a5,bS⟩ image (zk p).length 0 0).foldl (oQ p) (emp,[])).2⟩):=fE (by
   have h:=Ar (image:=image) hp hb (zk p).length 0 emp [] (by omega);unfold lD zK;rw[Lu ⟨hp,hb,hi⟩]
   exact h)
  have bn:=fE (fun(W:N) (h:(zM.sl 87).R W W.heap.size [J A p.length c] p)=>zpg (image:=image) (w:=W) (A:=A) (c:=c) h hs hp hb);generalize kE p ⟨bF,bI,a5,bS⟩ image (zk p).length 0 0=LL at aM c2 aS aT bn;obtain⟨FC,FS,aP⟩:∃ a b,LL.foldl (oQ p) (emp,[])=(a,b):=⟨_,_,rfl⟩
  have HE:Hid (lD p ⟨bF,bI,a5,bS⟩ image=⟨FC,FS⟩):=fE (by rw[aM.out,aP]);have bE:=fE aP;have bJ:=fE aS;have bL:=fE aT;have HP:=fE hp;have HB:=fE hb;have HI:=fE hi;clear hp hb hi aS aT aP aM;go_enter func44,ntmps44;go_upto_region 4 with(first | (go_at_call 41;(with_reducible refine(zav (Ty.up _ hx gF) hll hs).mono ?_);rw[HP.out];rintro e w1 ⟨rfl,a1⟩;have a6:fF w w1:=fF.trans (b:=_) gF a1;have a3:=fE (zj aD.out a1);obtain⟨y0,y1,yf,yl⟩:=lM a3.out;obtain⟨b0,b1,b2,b3,bf,bl⟩:=jq (zj EB.out a1)) | (go_at_call 42;(with_reducible refine(aL.out _).mono ?_);rw[HB.out];rintro e w2 ⟨rfl,a2⟩;have a3:=fE (zj a3.out a2);obtain⟨y0,y1,yf,yl⟩:=lM a3.out;have aK:=fE (zj (zj EB.out a1) a2);have ay:fF w w2:=a6.trans (fF.trans (b:=_) gF a2);have b0:=za a2 b0;have b1:=za a2 b1;have b2:=za a2 b2;have b3:=za a2 b3) | (go_at_call 43;(with_reducible refine(jr _ _ _ _).mono ?_);rw[HI.out];rintro e wb ⟨rfl,rfl⟩));have ao:=Lp w2 (C #[G ⟨#[]⟩,J V 0 0] 58);have cm:=yl;obtain⟨g7,ax⟩:∃ g,w2.heap.size=g:=⟨_,rfl⟩
  rw[ax] at ao |-;have ce:w.heap.size+1<g7:=by omega
  have ag:fF w (w2.alloc (C #[G ⟨#[]⟩,J V 0 0] 58)):=ay.alloc _;have a7:fF w2 (w2.alloc (C #[G ⟨#[]⟩,J V 0 0] 58)):=(fF.refl _).alloc _;have ak:=fE (zj a3.out a7);have b0:=za a7 b0;have b1:=za a7 b1;have b2:=za a7 b2;have b3:=za a7 b3;obtain⟨_,_,_,_,bf,bl⟩:=jq (zj aK.out a7);clear y0 y1 yf yl ax a7 cm;generalize (w2.alloc _)=w4 at ao ag ak b0 b1 b2 b3 bf bl |-;have b5:g7<w4.heap.size:=(blt ao)
  go_upto_region 5 with(first | (go_at_call 112;(with_reducible refine(bn.out _ (Ty.up _ hx ag)).mono ?_);rintro e w5 ⟨An,cn,Sn,Al,cl,cK,Sl,rfl,bw,bv,ar,aB,aY,a8⟩));have an:=fE (ag.trans a8);have al:=fE (zj ak.out a8);have aJ:=fE (zj ao a8);have cw:=a8.size;have aE:=fE bw;have bH:=fE bv;have aN:=fE ar;have am:=fE aB;clear b0 b1 b2 b3 bf bl bw bv ar aB aY a8 ao;go_wp2_with(fail);go_loopw [39] (fun z39 wr=>∃(j:Nat) (K7:D) (ss:Q gk) (A1:K Mh) (c1:Nat) (S1:Q Nat),z39=F I j/\j<=LL.length/\ss.length<=6/\K7.size<=12000*j/\Hid (ss.length=j)/\Hid (wr.heap[g7]?=H (C #[G K7,J A1 ss.length c1] 58 (0,0)))/\Hid (Has (jU.sl 110) wr [J A1 ss.length c1] ss S1)/\Hid (fJ [g7] w5 wr)/\Hid (∀ b∈S1,w5.heap.size<=b)/\Hid ((LL.drop j).foldl (oQ p) (K7,ss)=(FC,FS))) (fun z39 _=>LL.length-(Ml z39).toNat)
  case atStart=>exact⟨0,emp,[],V,0,[],rfl,Lv _,by simp,Lz _,fE rfl,aJ,fE (Has.nil _ _ _),fE (fJ.refl _ _),fE (fun b hb=>by cases hb),bE⟩
  case round=>
  obtain⟨j,K7,ss,A1,c1,S1,rfl,hj,cL,cE,bo,ad,hH,hO,ac,hA⟩:=hrel;have az:∀ b∈Sn++Sl,b∉[g7]:=fun b hb hm=>by simp only[Lr] at hm;have:=am.out b hb;omega
  have bM:=fE az;clear az;have bW:fV (K7.size:Int):=⟨by omega,by omega⟩
  by_cases hjl:j<LL.length
  ·have cj:(j:Int)<(LL.length:Int):=by omega
   have cM:Ll I ((j:Int)+1)=(j:Int)+1:=iw;obtain⟨⟨f,ys⟩,hy⟩:∃ y,LL[j]?=H y:=⟨_,Lo hjl⟩
   have cv:=(bJ.out _ (LP hy)).1;have bz:f<(zk p).length:=by have h:=bL.out _ (LP hy);simpa using h
   simp only at cv;obtain⟨Ay,cy,aR⟩:=Kp (g7:=g7) aN.out bH.out (j:=j) (xs:=ys) (by rw[NX,hy];rfl) b5 (fun b hb=>am.out b (Mc _ hb));obtain⟨⟨gl,ol,bR,cb⟩,_⟩:=aR wr hO.out;have bK:=fE aR
   have bD:Hid (LL.drop j=(f,ys)::LL.drop (j+1)):=fE (by
    obtain⟨h1,h2⟩:=Lh.1 hy;rw[<-h2]
    exact LI h1)
   have br:Hid ((uk LL)[j]?=H (f:Int)):=fE (by unfold uk;rw[NX,hy];rfl);subst bR;clear aR hy;obtain⟨z0,z1,zf,a0⟩:=lM ad.out;go_wp2_with(fail);clear z0 z1 zf a0 cb;go_loopw [49] (fun z49 wi=>∃(k:Nat) (cd:D),z49=F I k/\k<=ys.length/\cd.size<=12000*j+5*k/\K7.size<=cd.size/\Hid (K7++lh (l7 (ys.take k))=cd)/\Hid (wi.heap[g7]?=H (C #[G cd,J A1 ss.length c1] 58 (0,0)))/\Hid (Has (jU.sl 110) wi [J A1 ss.length c1] ss S1)/\Hid (fJ [g7] w5 wi)) (fun z49 _=>ys.length-(Ml z49).toNat)
   case atStart=>exact⟨0,K7,rfl,Lv _,by omega,Lz _,fE (Am _),ad,hH,hO⟩
   case round=>
   obtain⟨k,cd,rfl,hk,ca,bX,bh,ad,hH,hO⟩:=hrel;by_cases hkl:k<ys.length
   ·have ck:(k:Int)<(ys.length:Int):=by omega
    have cN:Ll I ((k:Int)+1)=(k:Int)+1:=iw;obtain⟨gy,oy,x,bg,bs,bU,ch,bB,x0,x1,x2,x3,x4,x5,x6,x7,xb⟩:=l2 (bK.out wr hO.out).2 hkl;clear xb;subst bU;have bN:=fE (JP bB);clear bB;go_upto_region 12 with(fail);have eb:=Lp wr (C #[F I x.Offset,F I x.Item.Op.Code,F I x.Item.Op.Arg,F I x.Item.fN,X x.Item.Start,J bg x.Item.fH.length bs,F I x.Item.fK,X x.Item.fI] 133);have b6:fF wr (wr.alloc (C #[F I x.Offset,F I x.Item.Op.Code,F I x.Item.Op.Arg,F I x.Item.fN,X x.Item.Start,J bg x.Item.fH.length bs,F I x.Item.fK,X x.Item.fI] 133)):=(fF.refl _).alloc _;obtain⟨bt,au⟩:∃ g,wr.heap.size=g:=⟨_,rfl⟩
    rw[au] at eb |-;clear au;generalize (wr.alloc _)=Y at eb b6 |-;obtain⟨_,o1,o2,_,_,_,_,_,_,_⟩:=jA eb;obtain⟨z0,_,zf,a0⟩:=lM (zj ad.out b6);have cF:=yR x.Item.Op;have cJ:¬ 9223372036854775807<cd.size+(jE x.Item.Op).size:=by omega
    clear x0 x1 x2 x3 x4 x5 x6 x7 eb;have bG:=hH;clear hH;refine kC (fun w'=>Lg w' ⟨g7,0,V⟩=H (G cd)/\Lg w' ⟨bt,1,V⟩=H (F I x.Item.Op.Code)/\Lg w' ⟨bt,2,V⟩=H (F I x.Item.Op.Arg)) 8 (by kernel_rfl) (Ls (zb z0) (Ls (zb o1) (zb o2))) (fun hH=>?_);have af:fF Y Y.drew:=(fF.refl _).drew;clear z0 o1 o2;generalize Y.drew=wx at af hH |-;obtain⟨z0,o1,o2⟩:=id hH;refine .tk 0 [8] hH ?_;refine .tk 1 [8] hH ?_;refine .tk 2 [8] hH ?_;refine .tk 3 [8] hH ?_;refine .tk 4 [8] hH ?_;refine fX.one (i:=5) (by kernel_rfl) rfl (fun Le hK=>?_);go_simp;go_at_call 113;(with_reducible refine(zr7 x.Item.Op _).mono ?_);rintro e v1 ⟨rfl,a1⟩;have ah:=af.trans a1;have cP:∀ j,LD v1 ⟨g7,j,V⟩=U:=fun j=>((ah.only []).frozen a0 (by simp) j).trans (zf j);have cR:g7<v1.heap.size:=Li a0 ah.size;have z0:=za a1 z0;have o1:=za a1 o1;have o2:=za a1 o2;refine hK.out _ _ (Ls z0 (Ls o1 o2)) (fun hI=>?_);clear hK hH;have hH:=hI
    try simp only[lay]
    refine .tk 6 [8] hH ?_;refine .tk 7 [8] hH ?_;refine fX.last (by kernel_rfl) rfl (by kernel_rfl) (fun Le hK=>?_);go_simp;refine hK.out _ _ ?_;clear hK
    try simp only[lay]
    have ai:=b6.trans ah;have b9:=jo (i:=0) (v:=G (cd++jE x.Item.Op)) (cur':=#[G (cd++jE x.Item.Op),J A1 ss.length c1]) (zj ad.out ai) rfl;have c4:fJ [g7] w5 (v1.setCell ⟨g7,0,V⟩ (G (cd++jE x.Item.Op))):=(hO.out.trans (ai.only _)).setCell (p:=⟨g7,0,V⟩) (by simp) _;have cz:fJ [g7] v1 (v1.setCell ⟨g7,0,V⟩ (G (cd++jE x.Item.Op))):=(fJ.refl _ _).setCell (p:=⟨g7,0,V⟩) (by simp) _;have bZ:=(bG.out.fO ai).fU cz (fun b hb hm=>by simp only[Lr] at hm;have:=ac.out b hb;omega);go_wp2_with(fail);go_roundw;exact⟨k+1,cd++jE x.Item.Op,by go_num,by omega,by rw[Na];omega,by rw[Na];omega,fE (by rw[bN.out,<-N5,bh.out]),fE b9,fE bZ,fE c4⟩;exact gL
   ·obtain rfl:k=ys.length:=by omega
    have ck:¬ ((ys.length:Int)<(ys.length:Int)):=by omega
    have bj:Hid (K7++lh (l7 ys)=cd):=fE (by rw[<-bh.out,MJ]);obtain⟨gi,b7⟩:∃ g,(zk p)[f]?=H g:=⟨_,Lo bz⟩
    obtain⟨i,rfl,xi,bA,_⟩:=vM b7;have ci:=(Lh.1 bA).1;have cI:(i:Int)<(p.length:Int):=by omega
    have cG:(f:Int)<((zk p).length:Int):=by omega
    have bk:=fE b7;obtain⟨gp,op,u,cA,cC,cB,cD,bT,cg,hu,_,v1,_,_,_,cs,_⟩:=jb hx ci
    have bO:Hid (oQ p (K7,ss) (f,ys)=(cd,ss++[⟨u.Name,K7.size,(cd.size:Int)-(K7.size:Int)⟩])):=fE (by
     unfold oQ;simp only;rw[bj.out,Mp,bk.out,Option.getD_some,Cr hu];have h:=MY M8 bj.out;rw[Na] at h
     rw[show ((cd.size:Int)-(K7.size:Int))=((lh (l7 ys)).size:Int) by omega])
    have be:fF w wr:=hO.out.fO an.out (fun b hb=>by simp only[Lr] at hb;omega);obtain⟨gn,on,fn,aj,aZ,nc,_,_⟩:=lR (aE.out.fU hO.out (fun b hb=>bM.out b (LW _ hb))).read (k:=j) (by unfold uk;rw[N8];exact hjl);obtain rfl:fn=(f:Int):=by rw[br.out] at aZ;injection aZ with h;exact h.symm
    obtain⟨ab,ae,ba⟩:∃ g,An=H ⟨g,0,V⟩/\g∈Sn:=by
     obtain⟨g',_,_,h1,h2,_⟩:=mN aE.out.1 aE.out.2 br.out;exact⟨g',h1,h2⟩
    have b8:=aE.out.lt ab ba;rw[ae] at aj;injection aj with aj
    injection aj with hAn1 hAn2
    subst hAn1;subst hAn2;have aj:=ae;rw[Mb] at nc;clear ae;subst aj;subst bT;have aA:=MM _ _ v1;simp only at aA;have v1:=za be v1;obtain⟨z0,z1,zf,a0⟩:=lM ad.out;have ct:=an.out.size;have bu:=hO.out.size;have cp:ab∉S1:=fun hm=>by have:=ac.out ab hm;omega
    have cq:gp∉S1:=fun hm=>by have:=ac.out gp hm;omega
    have ap:g7∉S1:=fun hm=>by have:=ac.out g7 hm;omega
    have cr:fV ((cd.size:Int)-(K7.size:Int)):=⟨by omega,by omega⟩
    have cO:Ll I ((cd.size:Int)-(K7.size:Int))=(cd.size:Int)-(K7.size:Int):=iw;have bq:=fE be;have bm:=hH;clear hH b7 bA hu aZ be;go_upto_region 14 with(fail);refine kC (fun w'=>Lg w' ⟨g7,1,V⟩=H (J A1 ss.length c1)/\Lg w' ⟨g7,0,V⟩=H (G cd)/\Lg w' ⟨ab,j,V⟩=H (F I (f:Int))/\Lg w' ⟨gp,op+i*4+1,V⟩=H (G u.Name)) 24 (by kernel_rfl) (Ls (zb z1) (Ls (zb z0) (Ls (zb nc) (zb v1)))) (fun hH=>?_);have af:fF wr wr.drew:=(fF.refl _).drew;clear z1 z0 nc v1;generalize wr.drew=wx at af hH |-;obtain⟨z1,z0,nc,v1⟩:=id hH;refine .tk 0 [24] hH ?_;refine .tk 1 [24] hH ?_;refine .tk 2 [24] hH ?_;refine .tk 3 [24] hH ?_;refine .tk 5 [24] hH ?_;refine .tk 6 [24] hH ?_;refine .tk 7 [24] hH ?_;refine .tk 8 [24] hH ?_;refine .tk 14 [24] hH ?_;refine .tk 15 [24] hH ?_;refine .tk 16 [24] hH ?_;refine .tk 17 [24] hH ?_;refine .tk 18 [24] hH ?_;refine .tk 19 [24] hH ?_;refine fX.one (i:=4) (by kernel_rfl) rfl (fun Le hK=>?_);go_simp;go_at_call 105;(with_reducible refine(zc4 (Ty.up _ hx (bq.out.trans af)) hll).mono ?_);rintro e y1 ⟨A5,c5,S5,rfl,aF,c6,a8⟩;have z1:=za a8 z1;have z0:=za a8 z0;have nc:=za a8 nc;have v1:=za a8 v1;obtain⟨g5,o5,i5,bQ,aG,fc,_,_⟩:=lR aF.read bz;obtain rfl:i5=(i:Int):=by rw[bk.out] at aG;injection aG with h;exact h.symm
    obtain⟨bP,aq,av⟩:∃ g,A5=H ⟨g,0,V⟩/\g∈S5:=by
     obtain⟨g',_,_,h1,h2,_⟩:=mN aF.1 aF.2 aG;exact⟨g',h1,h2⟩
    subst bQ;obtain⟨rfl,rfl⟩:g5=bP/\o5=0:=by injection aq with h;injection h with h1 h2;exact⟨h1,h2⟩
    rw[Mb] at fc;have cc:=c6 g5 av;have b4:=aF.lt g5 av;have a9:=af.trans a8;have aC:g7<y1.heap.size:=Li a0 a9.size;have bc:ab<y1.heap.size:=Li (Li b8 bu) a9.size;have bd:gp<y1.heap.size:=Li (Li aA bq.out.size) a9.size;refine hK.out _ _ (Ls z1 (Ls z0 (Ls nc v1))) (fun hI=>?_);clear hK hH aG aq;refine fX.more (S':=fun w'=>Lg w' ⟨g7,1,V⟩=H (J A1 ss.length c1)/\Lg w' ⟨g7,0,V⟩=H (G cd)/\Lg w' ⟨ab,j,V⟩=H (F I (f:Int))/\Lg w' ⟨gp,op+i*4+1,V⟩=H (G u.Name)/\Lg w' ⟨g5,f,V⟩=H (F I (i:Int))) (fun _ h=>⟨h.1,h.2.1,h.2.2.1,h.2.2.2.1⟩) ?_;have hH:Lg y1 ⟨g7,1,V⟩=H (J A1 ss.length c1)/\Lg y1 ⟨g7,0,V⟩=H (G cd)/\Lg y1 ⟨ab,j,V⟩=H (F I (f:Int))/\Lg y1 ⟨gp,op+i*4+1,V⟩=H (G u.Name)/\Lg y1 ⟨g5,f,V⟩=H (F I (i:Int)):=(Ls z1 (Ls z0 (Ls nc (Ls v1 fc))))
    try simp only[lay]
    refine .tk 9 [24] hH ?_;refine .tk 10 [24] hH ?_;refine .tk 11 [24] hH ?_;refine .tk 12 [24] hH ?_;refine .tk 13 [24] hH ?_;refine .tk 20 [24] hH ?_;refine fX.one (i:=21) (by kernel_rfl) rfl (fun Le hK=>?_);go_simp;refine hK.out _ _ (by((repeat' apply Ls) <;> (first | with_reducible assumption | with_reducible refine zo ?_ _) <;> (with_reducible assumption))) (fun hI=>?_);clear hK hH;have hH:=hI
    try simp only[lay]
    refine fX.one (i:=22) (by kernel_rfl) rfl (fun Le hK=>?_);refine zO (L:=ss.length+1) rfl (.tmp 63) (.tmp 83) DI Cu ((bm.out.fO a9).fO gF) (W1:=w) (B:=0) (ec:=[G u.Name,F I (K7.size:Int),F I ((cd.size:Int)-(K7.size:Int))]) (y:=(⟨u.Name,K7.size,(cd.size:Int)-(K7.size:Int)⟩:gk)) (B5 (x:=(⟨u.Name,K7.size,(cd.size:Int)-(K7.size:Int)⟩:gk)) cs bW cr) rfl rfl rfl (by intro j u hu;simpa[go_sem] using hu) rfl (by omega) (by omega) ?_;intro A8 c8 W8 S8 aa bY bx;have aw:g5∉S1:=fun hm=>by have h:=bm.out.lt g5 hm;have:=af.size;omega
    have z1:=(aa.cell (g:=g7) (Li aC (fF.size gF)) ap _).trans (za gF z1);have z0:=(aa.cell (g:=g7) (Li aC (fF.size gF)) ap _).trans (za gF z0);have nc:=(aa.cell (g:=ab) (Li bc (fF.size gF)) cp _).trans (za gF nc);have v1:=(aa.cell (g:=gp) (Li bd (fF.size gF)) cq _).trans (za gF v1);have fc:=(aa.cell (g:=g5) (Li b4 (fF.size gF)) aw _).trans (za gF fc);have a4:fF wr (y1.alloc (C #[G u.Name,F I (K7.size:Int),F I ((cd.size:Int)-(K7.size:Int))] 110)):=a9.trans ((fF.refl _).alloc _);have cQ:∀ j,LD W8 ⟨g7,j,V⟩=U:=fun j=>(aa.frozen (g:=g7) (Li a0 a4.size) ap j).trans (((a4.only []).frozen a0 (by simp) j).trans (zf j));have cS:g7<W8.heap.size:=Li (Li a0 a4.size) aa.size;refine hK.out _ _ (Ls z1 (Ls z0 (Ls nc (Ls v1 fc)))) (fun hI=>?_);clear hK hH;have hH:=hI
    try simp only[lay]
    refine .tk 23 [24] hH ?_;refine fX.last (by kernel_rfl) rfl (by kernel_rfl) (fun Le hK=>?_);go_simp;refine hK.out _ _ ?_;clear hK
    try simp only[lay]
    have bC:fJ [g7] W8 (W8.setCell ⟨g7,1,V⟩ (J A8 (ss.length+1) c8)):=(fJ.refl _ _).setCell (p:=⟨g7,1,V⟩) (by simp) _;have c3:fJ [g7] w5 W8:=hO.out.then ((a4.only S1).trans aa) (fun b hb=>.inr (ac.out b hb));have aO:g7∉S8:=fun hm=>(bx g7 hm).elim ap (fun h=>absurd (Li a0 a4.size) (Nat.not_lt.2 h));have c7:=jo (i:=1) (v:=J A8 (ss.length+1) c8) (cur':=#[G cd,J A8 (ss.length+1) c8]) ((aa.block g7 (Li a0 a4.size) ap).trans (zj ad.out a4)) rfl;have aQ:=bY.fU bC (fun b hb hm=>by simp only[Lr] at hm;exact aO (hm ▸ hb));go_wp2_with(fail);go_roundw;exact⟨j+1,cd,ss++[⟨u.Name,K7.size,(cd.size:Int)-(K7.size:Int)⟩],A8,c8,S8,by go_num,by omega,by rw[Lj,bo.out,Mj];omega,by omega,fE (by rw[Lj,bo.out,Mj]),fE (by rw[Lj];exact c7),fE (by rw[Lj];exact aQ),fE (c3.trans bC),fE (fun b hb=>(bx b hb).elim (ac.out b) (fun h=>LO (LO bu a4.size) h)),fE (by rw[<-hA.out,bD.out,NC,bO.out])⟩;exact gL
  ·obtain rfl:j=LL.length:=by omega
   have cj:¬ ((LL.length:Int)<(LL.length:Int)):=by omega
   have bV:K7=FC/\ss=FS:=by
    have h:=hA.out;rw[LY] at h;injection h with h1 h2
    exact⟨h1,h2⟩
   obtain⟨rfl,rfl⟩:=bV;obtain⟨z0,z1,zf,a0⟩:=lM ad.out;have cx:=(blt al.out)
   have aU:=(hO.out.block (w.heap.size+1) cx (by simp only[Lr];omega)).trans al.out;obtain⟨y0,y1,yf,cu⟩:=lM aU;have cf:fF w wr:=hO.out.fO an.out (fun b hb=>by simp only[Lr] at hb;omega);have aI:=fE aU;clear aU hA;go_wp2_with(fail);obtain⟨e6,o6⟩:=wU aI.out (G K7) (J A1 ss.length c1);have hgo:=o6.fO cf (fun b hb=>by simp only[Lr] at hb;omega);have c0:=hH.out.fU o6 (fun b hb hm=>by simp only[Lr] at hm;have:=ac.out b hb;have:=an.out.size;omega);obtain⟨r0,r1,_,_⟩:=lM e6;exact Ln (v:=.agg #[G K7,J A1 ss.length c1]) (by simp[Ly,results44,go_sem,r0,r1]) rfl (show vm _ w _ _ from by rw[HE.out];exact⟨A1,c1,S1,rfl,c0,fun b hb=>by have:=ac.out b hb;have:=an.out.size;omega,hgo⟩)
 ·have HE:Hid (lD p ⟨bF,bI,a5,bS⟩ image=⟨emp,[]⟩):=fE (by unfold lD zK;rw[Lt hc];rfl)
  obtain⟨bp,aX⟩:∃ v,zs p=v:=⟨_,rfl⟩
  obtain⟨bb,aV⟩:∃ v,jG ⟨bF,bI,a5,bS⟩=v:=⟨_,rfl⟩
  obtain⟨bi,aW⟩:∃ v,gW image 0 1=v:=⟨_,rfl⟩
  have aH:(bp && (bb && bi))=U:=by
   rw[<-aX,<-aV,<-aW];rcases LH (zs p && (jG ⟨bF,bI,a5,bS⟩ && gW image 0 1)) with h | h
   ·simp only[LC] at h
    exact absurd h hc
   ·exact h
  have HP:=fE aX;have HB:=fE aV;have HI:=fE aW;clear aX aV aW hc;go_enter func44,ntmps44;cases bp with
  | false=>
   clear aH;go_wp2_with(first | (go_at_call 41;(with_reducible refine(zav (Ty.up _ hx gF) hll hs).mono ?_);rw[HP.out];rintro e w1 ⟨rfl,a1⟩;have a6:fF w w1:=fF.trans (b:=_) gF a1;have a3:=fE (zj aD.out a1);obtain⟨y0,y1,yf,yl⟩:=lM a3.out;obtain⟨b0,b1,b2,b3,bf,bl⟩:=jq (zj EB.out a1)));obtain⟨e5,o5⟩:=wU a3.out (G ⟨#[]⟩) (J V 0 0);have hgo:=o5.fO a6 (fun b hb=>by simp only[Lr] at hb;omega);exact pH
  | true=>
   cases bb with
   | false=>
    clear aH;go_wp2_with(first | (go_at_call 41;(with_reducible refine(zav (Ty.up _ hx gF) hll hs).mono ?_);rw[HP.out];rintro e w1 ⟨rfl,a1⟩;have a6:fF w w1:=fF.trans (b:=_) gF a1;have a3:=fE (zj aD.out a1);obtain⟨y0,y1,yf,yl⟩:=lM a3.out;obtain⟨b0,b1,b2,b3,bf,bl⟩:=jq (zj EB.out a1)) | (go_at_call 42;(with_reducible refine(aL.out _).mono ?_);rw[HB.out];rintro e w2 ⟨rfl,a2⟩;have a3:=fE (zj a3.out a2);obtain⟨y0,y1,yf,yl⟩:=lM a3.out;have aK:=fE (zj (zj EB.out a1) a2);have ay:fF w w2:=a6.trans (fF.trans (b:=_) gF a2);have b0:=za a2 b0;have b1:=za a2 b1;have b2:=za a2 b2;have b3:=za a2 b3));obtain⟨e5,o5⟩:=wU a3.out (G ⟨#[]⟩) (J V 0 0);have hgo:=o5.fO ay (fun b hb=>by simp only[Lr] at hb;omega);exact pH
   | true=>
    cases bi with
    | false=>
     clear aH;go_wp2_with(first | (go_at_call 41;(with_reducible refine(zav (Ty.up _ hx gF) hll hs).mono ?_);rw[HP.out];rintro e w1 ⟨rfl,a1⟩;have a6:fF w w1:=fF.trans (b:=_) gF a1;have a3:=fE (zj aD.out a1);obtain⟨y0,y1,yf,yl⟩:=lM a3.out;obtain⟨b0,b1,b2,b3,bf,bl⟩:=jq (zj EB.out a1)) | (go_at_call 42;(with_reducible refine(aL.out _).mono ?_);rw[HB.out];rintro e w2 ⟨rfl,a2⟩;have a3:=fE (zj a3.out a2);obtain⟨y0,y1,yf,yl⟩:=lM a3.out;have aK:=fE (zj (zj EB.out a1) a2);have ay:fF w w2:=a6.trans (fF.trans (b:=_) gF a2);have b0:=za a2 b0;have b1:=za a2 b1;have b2:=za a2 b2;have b3:=za a2 b3) | (go_at_call 43;(with_reducible refine(jr _ _ _ _).mono ?_);rw[HI.out];rintro e wb ⟨rfl,rfl⟩));obtain⟨e5,o5⟩:=wU a3.out (G ⟨#[]⟩) (J V 0 0);have hgo:=o5.fO ay (fun b hb=>by simp only[Lr] at hb;omega);exact pH
    | true=>exact absurd aH (by decide)
end Go.Proofs.YtiihkapmggfjkaaGreat
