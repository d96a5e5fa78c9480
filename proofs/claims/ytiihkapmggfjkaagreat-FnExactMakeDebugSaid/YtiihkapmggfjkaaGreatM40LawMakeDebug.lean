/-
  PART.
-/
import Derived.Test.YtiihkapmggfjkaaGreatM39LawMakeDebug
set_option linter.unusedVariables false
set_option linter.unusedSimpArgs false
set_option maxRecDepth 100000
set_option maxHeartbeats 8000000
namespace Go.Proofs.YtiihkapmggfjkaaGreat
open Value renaming slice->J,int->F,bool->X,string->G
open IntKind renaming i64->I,wrap->Ll
open Option renaming none->V,some->H
open Obj renaming cells->C
open Bool renaming false->U,true->M
open Go renaming World->N,results->Ly,Value->LA,yielded->NA
open World renaming cell?->Lg,setCell->MH
open _root_.Int renaming toNat_natCast->Lw
open RowKit renaming intOf->Ml
open List renaming take_succ_cons->Mm,replicate->Mz,take_zero->MN
open Region renaming wanted->MI,ready->MK,noSelect->ND,free->Oq
open Tryz
open Go.RowKit
theorem zlq {P:ig}{d:Nat}(hR:kX P)(hEl:tI P.E.p)(hrep:wD P d):wM P d:=by
 intro T Z pd m s W L a2 i e h hs hO cW ba hd hm aJ cq he dn dm dM cd ce;obtain⟨i',e',xf,dC,bn,aN,dw,ae⟩:=hs.od;obtain rfl:i'=i:=by rw[cq] at dC;omega
 obtain rfl:=dw.uniq he;have cU:=he.len;have eA:=he.lt;have ep:=(Lh.1 bn).1;have cT:=hR.env.pc.len;have cI:=h.yg;have dl:=cI.size;obtain⟨Aj,cj,Sj,Lm,bE,ec⟩:=id h;obtain⟨Ai,ci,Af,cf,z0,z2,z5,z6,z7,z8,z9,eI,bo,zl⟩:=bE.st.cells;obtain⟨q0,q1,q2,q3,q4,q5,q6,q7,qf,ql⟩:=jA bE.sc.box;rw[cq] at q0;have bI:(∀ b∈T.Sc,b<W.heap.size)/\(∀ b∈T.Sl,b<W.heap.size)/\P.Y.heap.size<=W.heap.size:=⟨bE.sc.chain.lt,bE.sc.locals.lt,dl⟩
 have aX:=fE cq;have eH:Ll I ((i':Int)+1)=(i':Int)+1:=kt (by omega);have dJ:=hR.up cI;have eF:=hR.hl;have cC:=h.lt;have dL:s.wl []=s:=by unfold fL.wl;rw[<-cW]
 have dX:=fE h;have dU:=fE he.iy;clear cq dC bE ec z2 z5 z6 z7 z8 z9 eI q1 q2 q3 q4 q5 q6 q7 h;go_enter func249,ntmps249;go_upto_region 1 with(first | (go_at_call 260;(with_reducible refine(zrt (Ty.up _ dJ gF) (by omega)).mono ?_);rintro e9 w1 ⟨out,Ao,co,So,rfl,cE,c3,dk,bb⟩;have q0:=za (fF.trans (b:=_) gF bb) q0));have cH:fF W w1:=fF.trans (b:=_) gF bb;have dI:=cE.len;obtain⟨ga,oa,va,e8,_⟩:=lR (k:=0) (show (zF.sl 3).R w1 w1.heap.size [J Ao P.E.p.length co] out from c3.read) (by omega);subst e8;have bi:=gY.made w1;have aS:=gY.made (w1.alloc (.map #[] 0));have bT:=gY.made ((w1.alloc (.map #[] 0)).alloc (.map #[] 0));simp only[Mo] at aS bT;have eB:∀ w:N,(Instr.makeMap 284 V).run prog w=.ok (.map (H w.heap.size)) (w.alloc (.map #[] 0)):=fun w=>rfl;go_upto_region 4 with(fail);have bC:fF (w1.alloc (.map #[] 0)) (((w1.alloc (.map #[] 0)).alloc (.map #[] 0)).alloc (.map #[] 0)):=gF;have bD:fF ((w1.alloc (.map #[] 0)).alloc (.map #[] 0)) (((w1.alloc (.map #[] 0)).alloc (.map #[] 0)).alloc (.map #[] 0)):=gF;have ax:fF w1 (((w1.alloc (.map #[] 0)).alloc (.map #[] 0)).alloc (.map #[] 0)):=gF;have bi:=bi.fO bC;have aS:=aS.fO bD;clear bC bD;obtain⟨gz,dz⟩:∃ g,w1.heap.size=g:=⟨_,rfl⟩
 rw[dz] at bi aS bT |-;have cR:W.heap.size<=gz:=by have:=cH.size;omega
 have cy:=c3.fO ax;have bH:∀ b∈So,b<gz:=fun b hb=>by have:=c3.lt b hb;omega
 have q0:=za ax q0;have cb:=cH.trans ax;generalize ((w1.alloc _).alloc _).alloc _=w4 at bi aS bT ax cy q0 cb |-;clear ax c3 cH z0 zl bo ql qf dz;have az:∀ b,gz<=b->b∉L/\b∉So/\W.heap.size<=b:=fun b hb=>⟨fun hm=>by have:=cC _ hm;omega,fun hm=>by have:=bH _ hm;omega,by omega⟩
 have db:Hid (iF P T Z (a2++[s.f]) s W L ⟨gz,gz+1,gz+1+1,H ⟨ga,oa,V⟩,co,So,out⟩ [] pd ((zV m [] ((i'+1:Nat):Int)).fZ m.depth) [] (jm P.E.p i' (fun _=>0) (i'+1)) (kD P.E.p i' (fun _=>0) (i'+1)) (mA i' (fun _=>0) (i'+1)) (2*(i'+1)) L w4):=fE (by
  rw[Gt,Gy,FA];refine⟨by rw[dL];exact dX.out.fO cb,cb.only _,fun b hb=>.inl hb,⟨0,Lv _,bi⟩,⟨0,Lv _,aS⟩,⟨0,Lv _,bT⟩,?_,?_,⟨by show gz≠gz+1;omega,by show gz≠gz+1+1;omega,by show gz+1≠gz+1+1;omega⟩,fun b hb hm=>?_,fun p hp=>(by cases hp),bI⟩
  ·show Has (zF.sl 3) w4 [J (H ⟨ga,oa,V⟩) out.length co] out So
   rw[dI];exact cy
  ·intro b hb
   rcases hb with h | h | h
   ·rw[show b=gz from h];exact az gz (Lz _)
   ·rw[show b=gz+1 from h];exact az (gz+1) (by omega)
   ·rw[show b=gz+1+1 from h];exact az (gz+1+1) (by omega)
  ·have h5:=dk b hb
   have:=cC _ hm
   omega)
 obtain⟨LF,c6⟩:∃ LF,nA P.E (fun k g m=>zE P.E (zH P.E d) (a2++[s.f]) k s g m) (a2++[s.f]) s e' (P.E.p.drop (i'+1)) (e'+1-(i'+1)) (i'+1) ⟨m,[],Mz P.E.p.length 0,[]⟩=LF:=⟨_,rfl⟩
 have dZ:Hid (zH P.E (d+1) (a2++[s.f]) s m=(LF.m,LF.leaves)):=fE (by
  show qv P.E (fun fs s k g m=>zE P.E (zH P.E d) fs k s g m) (a2++[s.f]) s m=_;unfold qv;simp only[aX.out,dU.out,Lw,cW];rw[aX.out] at c6
  rw[show e'-i'=e'+1-(i'+1) from by omega,c6])
 have dY:=fE c6;have bX:ke P.E ⟨m,[],Mz P.E.p.length 0,[]⟩:=⟨hm,fun j hj=>(by cases hj),fun z hz=>(by cases hz),fun a ha=>(by rw[Ol ha];simp)⟩
 have ct:=fE cE;have dT:=fE az;clear c6 cy bi aS bT cE az dk bH eB;have e7:=fE dn;have e6:=fE dm;clear dn dm;go_wp2_with(fail);clear q0;go_loopw [8] (fun z8 wr=>∃(k:Nat) (L1:iN) (zf h:Nat->Int) (dep:Int) (L':Q Nat),z8=F I k/\i'<k/\k<=e'+1/\Hid (iF P T Z (a2++[s.f]) s W L ⟨gz,gz+1,gz+1+1,H ⟨ga,oa,V⟩,co,So,out⟩ [] pd ((zV L1.m L1.fT k).fZ dep) L1.leaves (jm P.E.p i' zf k) (kD P.E.p i' zf k) (mA i' h k) (2*k) L' wr)/\Hid (ke P.E L1)/\Hid (L1.fT=l1 P.E.p i' zf k)/\Hid (∀ j:Nat,i'<j->j<k->zG P.E.p j=5->L1.fR.getD j 0=h j)/\L1.m.depth=m.depth/\Hid (L1.m.start=U)/\max L1.m.items.length (200+iE d)<=max m.items.length (200+iE d)+24*(k-(i'+1))/\L1.leaves.length<=k-(i'+1)/\L1.fR.length=P.E.p.length/\Hid (nA P.E (fun k g m=>zE P.E (zH P.E d) (a2++[s.f]) k s g m) (a2++[s.f]) s e' (P.E.p.drop k) (e'+1-k) k L1=LF)) (fun z8 _=>e'+1-(Ml z8).toNat)
 case atStart=>exact⟨i'+1,⟨m,[],Mz P.E.p.length 0,[]⟩,(fun _=>0),(fun _=>0),m.depth,L,by go_num,by omega,by omega,db,fE bX,fE (by rw[FO]),fE (fun j h1 h2 _=>by omega),rfl,fE dM,Oz _ _,by simp,by simp,dY⟩
 case round=>
  obtain⟨k,L1,zf,h,dep,L',rfl,ac,eM,aG,aY,bB,cz,cN,hS,bK,bZ,dB,hG⟩:=hrel;obtain⟨Ai,ci,z0,z8,z9,bo,zl,q0,q1,q2,q6,_,aI⟩:=aG.out.cells;rw[e7.out] at q1;by_cases hle:k<=e'
  ·have cm:k<P.E.p.length:=by omega
   have hx:P.E.p[k]?=H P.E.p[k]:=Lo cm;generalize P.E.p[k]=x at hx
   have bs:zG P.E.p k≠0:=by
    rw[lq hx];intro h;by_cases hke2:k=e'
    ·subst hke2
     obtain⟨y,hy,h7⟩:=he.last;rw[hx] at hy;injection hy with hy
     rw[hy] at h;omega
    ·exact(ae k x ac (by omega) hx).1 h
   have dP:x.Kind≠0:=by rw[lq hx] at bs;exact bs
   have dK:=zw hR.env d (fs:=(a2++[s.f])) (k:=k) hs ba hd cm bs;have aR:0<=L1.m.depth/\L1.m.depth<=iP (d+1):=⟨by omega,by omega⟩
   obtain⟨aZ,aH⟩:=xT hR.env hs dK aY.out aX.out he ac hle hx aR;obtain⟨zz,dQ,c0,b9⟩:=GQ (rep:=(fun g m=>zE P.E (zH P.E d) (a2++[s.f]) k s g m)) (fs:=(a2++[s.f])) (s:=s) (e:=e') hx (hR.env.pc.kind k x hx) dP aX.out ac bB.out;obtain⟨aK,bc⟩:=Hq (rep:=(fun g m=>zE P.E (zH P.E d) (a2++[s.f]) k s g m)) (fs:=(a2++[s.f])) (s:=s) (e:=e') cz.out hx dB;have bm:=BQ P.E (fun g m=>zE P.E (zH P.E d) (a2++[s.f]) k s g m) (a2++[s.f]) s e' k x L1 hS.out;have bg:=JJ (E:=P.E) (rep:=(fun g m=>zE P.E (zH P.E d) (a2++[s.f]) k s g m)) (fs:=(a2++[s.f])) (s:=s) (e:=e') (k:=k) (x:=x) (L:=L1)
   have cx:nA P.E (fun k g m=>zE P.E (zH P.E d) (a2++[s.f]) k s g m) (a2++[s.f]) s e' (P.E.p.drop (k+1)) (e'+1-(k+1)) (k+1) (je P.E (fun g m=>zE P.E (zH P.E d) (a2++[s.f]) k s g m) (a2++[s.f]) s e' k x L1)=LF:=by
    rw[<-hG.out,Hf hx,show e'+1-k=(e'+1-(k+1))+1 from by omega];rfl
   obtain⟨L2,cB⟩:∃ L2,je P.E (fun g m=>zE P.E (zH P.E d) (a2++[s.f]) k s g m) (a2++[s.f]) s e' k x L1=L2:=⟨_,rfl⟩
   rw[cB] at aZ aH b9 aK bc bm bg cx;have aU:=fE cB;have cc:=aH.cnt;have dt:=aH.depth;have a7:max L2.m.items.length (200+iE d)<=max m.items.length (200+iE d)+24*(k+1-(i'+1)):=H6 cc bK ac;have a8:L2.m.depth=m.depth:=dt.trans ((Ns _).trans cN);have a9:L2.leaves.length<=k+1-(i'+1):=JK bZ bg ac;replace a7:=fE a7;replace a8:=fE a8;replace a9:=fE a9;obtain⟨nn,cp⟩:∃ n,L1.m.items.length=n:=⟨_,rfl⟩
   rw[cp] at aK;have ah:=fE aZ;have a1:=fE b9;have af:=fE aK;have ag:=fE bc;have ai:=fE bm;have aT:=fE cx;have e5:=fE dQ;have cu:=fE c0;have ay:iE d<=1000:=by unfold iE;omega
   have b4:iP (d+1)<=900:=by unfold iP;omega
   have eO:nn<=7000:=by omega
   have dN:L1.leaves.length<=100000:=by omega
   obtain⟨gp,op,x',bv,bz,bw,bA,dj,cQ,d7,p0,p1,p2,p3,pk,pn,pr,pX⟩:=jb hR.hp cm;obtain rfl:x'=x:=by rw[hx] at d7;injection d7 with h;exact h.symm
   have p0:=za aI p0;have p1:=za aI p1;have p2:=za aI p2;have p3:=za aI p3;have bd:fV (k:Int):=iu (by omega);have dG:fV (nn:Int):=iu (by omega);have ew:(k:Int)<=(e':Int):=by omega
   have cS:(k:Int)<(P.E.p.length:Int):=by omega
   have eQ:Ll I ((k:Int)+1)=(k:Int)+1:=kt (by omega);rw[dj] at z0;have HX:=fE hx;have a5:=fE (show (∀ j,j<k->(fun j=>if j=k then zz else zf j) j=zf j)/\(∀ j,j<k->(fun j=>if j=k then (nn:Int) else h j) j=h j) from⟨fun j hj=>Lt (by omega),fun j hj=>Lt (by omega)⟩)
   have aV:Hid (mA i' (fun j=>if j=k then (nn:Int) else h j) (k+1)=jg (mA i' h k) k (nn:Int)):=fE (by
    rw[FW _ _ ac,Fz a5.out.2]
    simp only[Nx])
   clear hx d7 dj aZ aH b9 aK bc bm bg cx hG cB cc dt dQ c0 pk pn pr dK;have bq:=aG.out.s6 (g:=wr.heap.size) (o:=C #[F I x'.Kind,G x'.Name,J bv x'.fP.length bz,J bw x'.Expr.length bA] 87 (0,0)) (w2:=wr.alloc (C #[F I x'.Kind,G x'.Name,J bv x'.fP.length bz,J bw x'.Expr.length bA] 87)) ((fF.refl _).alloc _) (Lp _ _) (Lz _);obtain⟨m0,bt⟩:∃ m0,zV L1.m L1.fT k=m0:=⟨_,rfl⟩
   have d6:=vP (n0:=0) aY.out.mo (tgt:=(k:Int)) (es:=L1.fT) aY.out.fT;rw[bt] at bq d6;have bU:m0.depth=L1.m.depth:=by rw[<-bt];rfl
   have al:m0.items.length=nn:=by rw[<-bt,<-cp];exact(qI _ _ _ _).2
   have bV:m0.start=U:=by rw[<-bt];exact hS.out
   have aO:=fE bt;have da:=fE d6;have cs:=fE bV;have aP:=fE cp;clear aG bt d6 bV cp z8 z9 bo zl q0 q2 q6;go_upto_region 8 with(fail);obtain⟨g8,dy⟩:∃ g8,wr.heap.size=g8:=⟨_,rfl⟩
   rw[dy] at bq |-;generalize wr.alloc _=wa at bq |-;clear z0 q1 p0 p1 p2 p3 dy aI;obtain⟨Ai,ci,z0,z8,z9,bo,zl,q0,q1,q2,q6,_,aI⟩:=bq.cells;obtain⟨L3,cF⟩:=bq.dep Z.base;have e0:((m0.fZ dep).fZ Z.base)=m0:=by rw[e6.out,<-cN,<-bU];rfl
   rw[e0] at cF;have aW:=fE cF;clear bq e0 z0 z8 q0 q1 q2 aI cF;go_upto_region 9 with(fail);clear z9 bo zl q6;replace aW:Hid (iF P T Z (a2++[s.f]) s W L ⟨gz,gz+1,gz+1+1,H ⟨ga,oa,V⟩,co,So,out⟩ [(g8,C #[F I x'.Kind,G x'.Name,J bv x'.fP.length bz,J bw x'.Expr.length bA] 87 (0,0))] pd m0 L1.leaves (jm P.E.p i' zf k) (kD P.E.p i' zf k) (mA i' h k) (2*k) L3 (MH wa ⟨P.g,9,V⟩ (F I Z.base))):=aW;generalize MH wa ⟨P.g,9,V⟩ (F I Z.base)=w3 at aW |-;obtain⟨Ai,ci,z0,z8,z9,bo,zl,q0,q1,q2,q6,_,aI⟩:=aW.out.cells;rw[al] at z8;obtain⟨nf,eC,c5⟩:=aW.out.mf;have bW:nf<maxLen:=by show nf<2 ^ 63-1;omega
   replace c5:gY w3 (gz+1+1) nf (mA i' h k):=c5;clear z0 z9 bo zl q0 q1 q2 q6 aI;go_upto_region 11 with(first | (refine xz c5 bd dG bW rfl (.tmp 51) (.tmp 52) (.tmp 53) rfl rfl rfl rfl ?_;intro w4 de dh));have aE:=aW.out.jg (N':=2*k+1) de dh (by omega) (by omega);clear z8 c5 de dh aW;obtain⟨b0,b1,b2,b3,bf,bl⟩:=jq (show w4.heap[g8]?=_ from(aE.kb _ (.head _)).1);have bk:s.chain.length<=1000:=by have:=hs.chain.1;omega
   have cO:0<=m0.depth/\m0.depth<=1000:=⟨by omega,by omega⟩
   have du:fV m0.depth:=iu (by omega);have bj:m0.items.length<=90000:=by omega
   clear cQ cU ep b4 ay aR dB cI dl bI eH cR;by_cases k4:x'.Kind=4
   ·as_aux_lemma=>
    have ab:mM 4=U:=by decide
    rw[k4] at b0
    have aq:k<e':=by
     rcases Ny k e' with h | h
     ·exact h
     ·exfalso
      obtain rfl:k=e':=by omega
      obtain⟨y,hy,h7⟩:=he.last;rw[HX.out] at hy;injection hy with hy
      rw[<-hy,k4] at h7;cases h7
    obtain⟨a,eL,cJ,br⟩:=hEl i' e' k xf x' he bn aN ac aq HX.out k4
    have aF:i'<a:=by
     rcases Ny i' a with h | h
     ·exact h
     ·exfalso
      obtain rfl:a=i':=by omega
      obtain⟨y,hy,h3⟩:=(qK br).iff;rw[bn] at hy;injection hy with hy
      rw[<-hy] at h3;omega
    have am:=ct.out.np a k (by omega) br;have dR:=Jc (zf:=zf) aF br;obtain⟨jn,xi,aw,bR,_⟩:=aY.out.fT (-(k:Int),zf a) (by rw[bB.out];exact qL.2 ⟨a,aF,cJ,DJ br⟩);replace aw:zf a=(jn:Int):=aw;have er:jn<nn:=by have h5:=(Lh.1 bR).1;rw[aP.out] at h5;exact h5
    rw[aw] at dR;have cK:fV (a:Int):=iu (by omega);have cr:=fE br;have c2:Hid (zz=(nn:Int)):=fE (by rw[e5.out k4,aP.out])
    have d9:Hid (L2.m=zV (zv P.E m0 10 0 k s.chain) L2.fT (-(k:Int))/\L2.leaves=L1.leaves):=fE (by
     rw[<-aU.out];unfold je;simp only;rw[Lu k4,aO.out]
     exact⟨rfl,rfl⟩)
    obtain⟨n1,dF⟩:∃ n,nn+1=n:=⟨_,rfl⟩
    have dx:(zv P.E m0 10 0 k s.chain).items.length=n1:=by rw[qT,al,dF]
    have ao:Hid (zV L2.m L2.fT ((k+1:Nat):Int)=(zv P.E m0 10 0 k s.chain).gU (zL (zv P.E m0 10 0 k s.chain).items jn (n1:Int))):=fE (by
     have eu:zG P.E.p k≠7:=by rw[lq HX.out,k4];decide
     have e1:∀ mm:fW,zV mm (l1 P.E.p i' (fun j=>if j=k then zz else zf j) (k+1)) ((k+1:Nat):Int)=mm:=fun mm=>by
      unfold zV;rw[uZ eu];rfl
     rw[a1.out,e1,d9.out.1,a1.out];unfold zV
     rw[G0 aF cr.out,dx,Lt (show ¬ a=k by omega),aw,Lw])
    have a4:=fE d9.out.2;have an:Hid (jm P.E.p i' (fun j=>if j=k then zz else zf j) (k+1)=rv (jm P.E.p i' zf k) a):=fE (by rw[Ja cr.out,th a5.out.1])
    have aD:Hid (kD P.E.p i' (fun j=>if j=k then zz else zf j) (k+1)=jg (kD P.E.p i' zf k) a (nn:Int)):=fE (by
     rw[Hy aF cr.out,vL a5.out.1];simp only[Nx]
     rw[c2.out])
    have eJ:=fE aw;clear br aw bR;go_upto_region 26 with(first | (go_at_call 187;(with_reducible refine(uK _ _).mono ?_);rw[ab];rintro e9 w5 ⟨rfl,aj⟩;have b0:=za aj b0;have b3:=za aj b3));have au:=aE.fO aj;have o5:=au.own rfl am;obtain⟨_,_,_,z8,_⟩:=au.cells;rw[al] at z8;clear b0 b1 b2 b3 bf bl;refine mv 10 (by kernel_rfl) (by kernel_rfl) (fun wy hgy=>?_);have cG:=au.fO hgy;have o5:=za hgy o5;have z8:=za hgy z8;obtain⟨no,eP,cA⟩:=cG.mo;have d3:no<maxLen:=by show no<2 ^ 63-1;omega
    replace cA:gY wy (gz+1) no (kD P.E.p i' zf k):=cA;simp only[Mm,MN,Mr,Mt]
    repeat still_step
    refine M6 ?_;have cM:fV (m0.depth+0):=iu (by omega);go_upto_region 28 with(first | (refine xz cA cK dG d3 rfl (.tmp 114) (.tmp 118) (.tmp 123) rfl rfl rfl rfl ?_;intro w6 ea ed;have av:=cG.xc (N':=2*(k+1)) ea ed (by omega) (by omega)) | (go_at_call 248;(with_reducible refine(AA av bk (by omega) (iu (by omega)) (iu (by omega)) bd du cM).mono ?_);rintro e9 w7 ⟨rfl,L7,bG⟩));have bO:((zv P.E m0 10 0 k s.chain).fZ (m0.depth+0)).items.length=n1:=dx;clear cG au aE o5 z8;have bx:=fE bG;clear bG;have d0:fV (n1:Int):=iu (by omega);have et:(jn:Int)<(n1:Int):=by omega
    clear dF;refine mv 18 (by kernel_rfl) (by kernel_rfl) (fun wu hgu=>?_);have ca:=bx.out.fO hgu;have o7:=ca.own rfl am;obtain⟨nz,d4,ar⟩:=ca.mz;have ez:=gY.look (W:=wu) (b:=gz) ar cK dR;obtain⟨gi,ci,x8,xl,xf,⟨v0,xa⟩,c1⟩:=ca.arg (j:=jn) (by rw[bO];omega);rw[bO] at x8;have dd:=fE (c1 (n1:Int) d0);clear c1 ar ca;simp only[Mm,MN,Mr,Mt]
    repeat still_step
    refine M6 ?_;go_upto_region 29 with(fail);clear x8 xl xf xa ez;obtain⟨L8,ap⟩:=dd.out;have aa:Hid (iF P T Z (a2++[s.f]) s W L ⟨gz,gz+1,gz+1+1,H ⟨ga,oa,V⟩,co,So,out⟩ [(g8,C #[F I x'.Kind,G x'.Name,J bv x'.fP.length bz,J bw x'.Expr.length bA] 87 (0,0))] pd (((zv P.E m0 10 0 k s.chain).fZ (m0.depth+0)).gU (zL ((zv P.E m0 10 0 k s.chain).fZ (m0.depth+0)).items jn (n1:Int))) L1.leaves (jm P.E.p i' zf k) (jg (kD P.E.p i' zf k) a (nn:Int)) (jg (mA i' h k) k (nn:Int)) (2*(k+1)) L8 (MH wu ⟨gi,jn*7+1,V⟩ (F I (n1:Int)))):=fE ap;clear ap dd;generalize MH wu ⟨gi,jn*7+1,V⟩ (F I (n1:Int))=wv at aa |-;have o8:=aa.out.own rfl am;obtain⟨nz,d4,ar⟩:=aa.out.mz;replace ar:gY wv gz nz (jm P.E.p i' zf k):=ar;go_wp2_with(first | (refine EW ar cK rfl (.tmp 146) (.tmp 150) rfl rfl rfl ?_;intro w9 df di));have a6:=aa.out.ur (N':=2*(k+1)) df di d4 (Lz _);clear aa bx o8 df di ar;have a3:=fE a6;clear a6;go_roundw
    case measure=>(clear ba hd aJ cd ce bK bZ;simp[Ml];try omega)
    case rel=>exact⟨k+1,L2,(fun j=>if j=k then zz else zf j),(fun j=>if j=k then (nn:Int) else h j),(m0.depth+0),L8,by go_num,MO ac,MS hle,fE (iF.drop (by rw[ao.out,a4.out,an.out,aD.out,aV.out];exact a3.out) (fun _ h=>by cases h)),ah,a1,af,a8.out,ai,a7.out,a9.out,ag.out,aT⟩
   by_cases k7:x'.Kind=7
   ·by_cases hke2:k=e'
    ·as_aux_lemma=>
     obtain rfl:=hke2;have ab:mM 7=U:=by decide
     rw[k7] at b0;have en:=(Lh.1 bn).1;have am:=ct.out.ends i' k en he;have be:zG P.E.p k=7:=by rw[lq HX.out,k7]
     have ad:Hid (L2=zR P.E s k M ⟨zZ P.E m0 0 k s.chain,L1.leaves,L1.fR,L1.fT⟩):=fE (by
      rw[<-aU.out];unfold je;simp only;rw[Lt k4,Lu k7,Lu trivial,aO.out]
      rfl)
     have ao:Hid (zV L2.m L2.fT ((k+1:Nat):Int)=(zR P.E s k M ⟨zZ P.E m0 0 k s.chain,L1.leaves,L1.fR,L1.fT⟩).m):=fE (by
      rw[a1.out,CX he bn aN,ad.out])
     have a4:Hid (L2.leaves=(zR P.E s k M ⟨zZ P.E m0 0 k s.chain,L1.leaves,L1.fR,L1.fT⟩).leaves):=fE (by rw[ad.out]);have an:Hid (jm P.E.p i' (fun j=>if j=k then zz else zf j) (k+1)=jm P.E.p i' zf k):=fE (by rw[uO (by omega) (by omega) (by omega),th a5.out.1]);have aD:Hid (kD P.E.p i' (fun j=>if j=k then zz else zf j) (k+1)=kD P.E.p i' zf k):=fE (by rw[yE (by omega),vL a5.out.1]);go_upto_region 31 with(first | (go_at_call 187;(with_reducible refine(uK _ _).mono ?_);rw[ab];rintro e9 w5 ⟨rfl,aj⟩;have b0:=za aj b0;have b3:=za aj b3));have au:=aE.fO aj;have o5:=au.own rfl am;have b5 : -100000<=m0.depth/\m0.depth<=100000:=⟨by omega,by omega⟩
     have ak:k<=1000:=by omega
     clear b0 b1 b2 b3 bf bl be;go_wp2_with(first | (go_at_call 264;(with_reducible refine(Kf (hd:=L1.fR) (ex:=L1.fT) au hR hO bn aN bk bj dN b5 ak).mono ?_);rintro e9 w6 ⟨rfl,cv,L6,av⟩));have a6:=av.more (N':=2*(k+1)) (by omega);clear aE au av o5;have a3:=fE a6;clear a6;go_roundw
     case measure=>(clear ba hd aJ cd ce bK bZ;simp[Ml];try omega)
     case rel=>exact⟨k+1,L2,(fun j=>if j=k then zz else zf j),(fun j=>if j=k then (nn:Int) else h j),cv,L6,by go_num,MO ac,MS hle,fE (iF.drop (by rw[ao.out,a4.out,an.out,aD.out,aV.out];exact a3.out) (fun _ h=>by cases h)),ah,a1,af,a8.out,ai,a7.out,a9.out,ag.out,aT⟩
    as_aux_lemma=>
    have ab:mM 7=U:=by decide
    rw[k7] at b0;have aq:k<e':=by omega
    obtain⟨a,aF,cJ,b6⟩:=he.opener ac aq HX.out k7;obtain⟨xa,bu,bY⟩:=b6.op
    have bQ:xa.Kind=3∨xa.Kind=5:=by
     have h0:=(ae a xa aF (by omega) bu).1;unfold kn at bY;simp only[NU,LQ] at bY;omega
    have aA:zG P.E.p a=3∨zG P.E.p a=5:=by rw[lq bu];exact bQ
    have am:=ct.out.ends a k (by omega) b6;have dO:=Jv (zf:=zf) aF b6 aA;obtain⟨eD,eE,dH⟩:=Eg (zf:=zf) aF b6 aA;obtain⟨jn,xi,aw,bR,_⟩:=aY.out.fT ((k:Int)+1,zf (lF P.E.p a)) (by rw[bB.out];exact qL.2 ⟨lF P.E.p a,eD,eE,dH⟩);replace aw:zf (lF P.E.p a)=(jn:Int):=aw;have er:jn<nn:=by have h5:=(Lh.1 bR).1;rw[aP.out] at h5;exact h5
    rw[aw] at dO;have dA:=Dn a aY.out.fR;obtain⟨hv,ck⟩:∃ v,L1.fR.getD a 0=v:=⟨_,rfl⟩
    rw[ck] at dA;have eG:fV hv:=iu (by have h9:=aP.out;omega)
    have em:xa.Kind=5->jg (mA i' h k) k (nn:Int) (a:Int)=H hv:=fun h5=>by
     unfold jg mA;rw[Lt (by omega),Lu ⟨by omega,by omega⟩,Lw,<-cz.out a aF cJ (by rw[lq bu];exact h5),ck]
    have be:zG P.E.p k=7:=by rw[lq HX.out,k7]
    obtain⟨MB,cD⟩:∃ K9,(if xa.Kind=5 then zv P.E m0 10 hv k s.chain else m0)=K9:=⟨_,rfl⟩
    have aQ:lK P.E k s.chain L1.fR (k-(i'+1)) (i'+1) m0=MB:=by
     rw[<-cD];rcases vH P.E k s.chain L1.fR (k-(i'+1)) (i'+1) m0 with⟨w1,w2⟩ | ⟨j,w1,w2,w3,w4,w5⟩
     ·rw[w1,Lt (fun h5=>w2 a (by omega) (by omega) ⟨b6,by rw[lq bu];exact h5⟩)]
     ·have:=w3.same b6
      subst this;rw[w5,ck,Lu (by rw[lq bu] at w4;exact w4)]
    have ad:Hid (L2=L1.wm MB):=fE (by
     rw[<-aU.out];unfold je;simp only
     rw[Lt k4,Lu k7,Lt hke2,aO.out,aX.out,Lw,aQ])
    have ao:Hid (zV L2.m L2.fT ((k+1:Nat):Int)=MB.gU (zL MB.items jn MB.items.length)):=fE (by
     rw[a1.out,ad.out];unfold zV;show MB.gU (kV MB.items _ _ _)=_;rw[Hz aF b6 aA,Lt (show ¬ lF P.E.p a=k by omega),aw,Lw]
     rfl)
    have a4:Hid (L2.leaves=L1.leaves):=fE (by rw[ad.out];rfl);have an:Hid (jm P.E.p i' (fun j=>if j=k then zz else zf j) (k+1)=jm P.E.p i' zf k):=fE (by rw[uO (by omega) (by omega) (by omega),th a5.out.1]);have aD:Hid (kD P.E.p i' (fun j=>if j=k then zz else zf j) (k+1)=kD P.E.p i' zf k):=fE (by rw[yE (by omega),vL a5.out.1]);have e2:=fE cD;clear aw bR dH dA ck be cD aQ;go_upto_region 31 with(first | (go_at_call 187;(with_reducible refine(uK _ _).mono ?_);rw[ab];rintro e9 w5 ⟨rfl,aj⟩;have b0:=za aj b0;have b3:=za aj b3));have au:=aE.fO aj;have o5:=au.own rfl am;have b5 : -100000<=m0.depth/\m0.depth<=100000:=⟨by omega,by omega⟩
    have ak:k<=1000:=by omega
    have cL:=Jh (i:=k) au hR bu bQ dO (by omega) em eG bk bj b5 ak;rw[e2.out] at cL;clear b0 b1 b2 b3 bf bl;go_wp2_with(first | (go_at_call 264;(with_reducible refine cL.mono ?_);rintro e9 w6 ⟨rfl,L6,av⟩));have a6:=av.more (N':=2*(k+1)) (by omega);clear aE au av o5 cL;have a3:=fE a6;clear a6;go_roundw
    case measure=>(clear ba hd aJ cd ce bK bZ;simp[Ml];try omega)
    case rel=>exact⟨k+1,L2,(fun j=>if j=k then zz else zf j),(fun j=>if j=k then (nn:Int) else h j),(MB.gU (zL MB.items jn MB.items.length)).depth,L6,by go_num,MO ac,MS hle,fE (iF.drop (by rw[ao.out,a4.out,an.out,aD.out,aV.out];exact a3.out) (fun _ h=>by cases h)),ah,a1,af,a8.out,ai,a7.out,a9.out,ag.out,aT⟩
   have aq:k<e':=by
    rcases Ny k e' with h | h
    ·exact h
    ·exfalso
     obtain rfl:k=e':=by omega
     obtain⟨y,hy,h7⟩:=he.last;rw[HX.out] at hy;injection hy with hy
     exact k7 (by rw[hy];exact h7)
   obtain⟨dp,dr,_,dq⟩:=ae k x' ac aq HX.out;have dE:=zX.1 (hR.env.pc.kind k x' HX.out);have ab:mM x'.Kind=M:=xP dE dp k4 k7;obtain⟨ee,ch,cg,ej⟩:=hR.env.pc.expr k x' HX.out ab
   have d2:zB P.E.p s.locals ee.flat=M:=by
    rw[<-cg,hs.locals.1,aX.out];exact dr
   have c8:=aE.begun;rw[al] at c8;have ds:nn∈nn::pd/\∀ q∈nn::pd,q<=nn:=⟨by simp,fun q hq=>by have h9:=c8.st.kj.le q hq;rw[<-al];exact h9⟩
   have bh:iq P.E m0.begun:=⟨da.out.ok.its,da.out.ok.pos⟩
   have bJ:iP d=iP (d+1)+30:=by unfold iP;omega
   have b4:iP (d+1)<=900:=by unfold iP;omega
   have cP:=ee.size_pos;have ay:iE d<=1000:=by unfold iE;omega
   have dv:max (m0.begun).items.length (200+iE d)+ee.size<=8000:=by show max m0.items.length _+_<=_;omega
   have b7:0<=(m0.begun).depth:=by show 0<=m0.depth;omega
   have b8:(m0.begun).depth+ee.size<=iP d+1:=by show m0.depth+_<=_;omega
   have aC:=Ex.iB hR.env hs (zw hR.env d (fs:=(a2++[s.f])) (k:=k) hs ba hd cm bs) (k:=(k:Int)) ⟨by omega,by omega⟩ ee m0.begun ch d2 bh b7 b8;have aB:=Ex.nk (E:=P.E) (rep:=(fun g m=>zE P.E (zH P.E d) (a2++[s.f]) k s g m)) (fs:=(a2++[s.f])) (s:=s) (k:=(k:Int)) (fun g m=>Fw P.E d _ _ _ _ _) ee m0.begun;rw[<-uS ch,<-cg] at aC aB;obtain⟨m6,cX⟩:∃ m6,nT P.E (fun g m=>zE P.E (zH P.E d) (a2++[s.f]) k s g m) (a2++[s.f]) s k x'.Expr m0.begun=m6:=⟨_,rfl⟩
   rw[cX] at aC aB;have ei:m6.depth=m0.depth+1:=aC.depth;have eh:m6.items.length<=max m0.items.length (200+iE d)+ee.size:=aC.cnt;have cY:m6.items.length<=90000:=by omega
   have bp:=fE cX;have dc:=fE c8;have dV:=fE cg;have a0:=lq HX.out;clear aC c8 cX cg;go_upto_region 13 with(first | (go_at_call 187;(with_reducible refine(uK _ _).mono ?_);rw[ab];rintro e9 w5 ⟨rfl,aj⟩;have b0:=za aj b0;have b3:=za aj b3) | (go_at_call 261;(with_reducible refine(Kj hR hs hO hrep ba hd HX.out bs pX ds (dc.out.fO aj) ch dV.out d2 bh dv b7 b8).mono ?_);rintro e9 w6 ⟨rfl,L6,av⟩));rw[bp.out] at av
   have bS:nn<m6.items.length:=by
    have hp:=av.st.kj;have h1:=hp.le nn (by simp);rcases Ny nn m6.items.length with h | h
    ·exact h
    ·exfalso
     have h2:m6.items.length=nn:=by omega
     have h3:=hp.st.2 (by rw[h2];simp);rw[aB] at h3;cases h3
   have bP:nn∉pd:=by
    have h9:=aE.st.kj.idle cs.out;rwa [al] at h9
   obtain⟨gi,ci,x8,xl,xf,⟨v0,xa⟩,L7,bG⟩:=av.mark bP bS aB;have d1:(nn:Int)<(m6.items.length:Int):=by omega
   have bx:=fE bG;clear b0 b1 b2 b3 bf bl aE av bG dc ds dv b7 b8 bh d2 ch dr;go_upto_region 14 with(fail);clear x8 xl xf xa;have aa:Hid (iF P T Z (a2++[s.f]) s W L ⟨gz,gz+1,gz+1+1,H ⟨ga,oa,V⟩,co,So,out⟩ [(g8,C #[F I x'.Kind,G x'.Name,J bv x'.fP.length bz,J bw x'.Expr.length bA] 87 (0,0))] pd m6 L1.leaves (jm P.E.p i' zf k) (kD P.E.p i' zf k) (jg (mA i' h k) k (nn:Int)) (2*k+1) L7 (MH w6 ⟨gi,nn*7+3,V⟩ (X M))):=bx;clear bx;generalize MH w6 ⟨gi,nn*7+3,V⟩ (X M)=w7 at aa |-;obtain⟨b0,b1,b2,b3,bf,bl⟩:=jq (show w7.heap[g8]?=_ from(aa.out.kb _ (.head _)).1);have bN : -1000000<=m6.depth/\m6.depth<=1000000:=⟨by omega,by omega⟩
   have bL:fV m6.depth:=iu (by omega);have bM:fV (m6.depth + -1):=iu (by omega);have aM:m6.items.length<=100000:=by omega
   have dS:=fE dq;have dg:kD P.E.p i' (fun j=>if j=k then zz else zf j) (k+1)=kD P.E.p i' zf k:=by rw[yE (by rw[a0];exact k4),vL a5.out.1]
   have aD:=fE dg;clear dg dq dp ab dE ej cP bJ ay d1 bP bS eh b4;clear ba hd aJ cd ce bK bZ cN cY ei cO bj bU cS eA eC bW dI du;by_cases k1:x'.Kind=1
   ·as_aux_lemma=>
    have dD:=tE s.locals x'.Name 0 (by rw[hs.locals.1,aX.out];exact dS.out k1);obtain⟨ix,aL⟩:∃ v,m5 s.locals x'.Name 0=v:=⟨_,rfl⟩
    rw[aL] at dD;have dW:Hid (ja s.locals x'.Name 0=ix):=fE (by rw[yt,aL])
    have ad:Hid (L2=⟨jC P.E m6 s ix k s.chain,L1.leaves,L1.fR.set k (nn:Int),L1.fT⟩):=fE (by
     rw[<-aU.out];unfold je;simp only;rw[Lt k4,Lt k7,aO.out,bp.out,aP.out,Lu k1,aL]
     rfl)
    have ao:Hid (zV L2.m L2.fT ((k+1:Nat):Int)=jC P.E m6 s ix k s.chain):=fE (by
     rw[a1.out,ad.out];unfold zV;rw[uZ (by rw[a0];exact k7)]
     rfl)
    have a4:Hid (L2.leaves=L1.leaves):=fE (by rw[ad.out]);have an:Hid (jm P.E.p i' (fun j=>if j=k then zz else zf j) (k+1)=jm P.E.p i' zf k):=fE (by rw[uO (by rw[a0];exact k4) (by rw[a0,k1];decide) (by rw[a0,k1];decide),th a5.out.1]);have cV:=hs.locals.2;have ey:s.locals.length<=8796093022208:=by omega
    have eo:0<=ix/\ix<=100:=⟨by omega,by omega⟩
    have ek:=hs.first;have cc:=hs.chain.1;have el : -1000<=s.first/\s.first<=1000:=⟨by omega,by omega⟩
    have ef:=hR.env.args;have eg:0<=P.E.args/\P.E.args<=100:=⟨by omega,by omega⟩
    obtain⟨_,_,-,-,-,-,-,-,-,q2,-,eb,-⟩:=aa.out.cells;rw[k1] at b0;clear aL dD cV ek cc ef;go_upto_region 16 with(fail);clear b0 b2 b3 dL cW dM aB al ae hEl hrep hm dw dJ eF cC bX cb db bi aS p0 p1 p2 p3 pX bb cz bB aY a0 bs dP cT q0;go_region_held3 (fun w'=>Lg w' ⟨Z.gs,2,V⟩=H (J T.Al s.locals.length T.cl)/\Lg w' ⟨g8,1,V⟩=H (G x'.Name)) ((repeat' apply Ls) <;> (first | ((repeat (first | assumption | with_reducible refine zC ?_ _ _ | with_reducible refine zo ?_ _ | with_reducible refine zb ?_));done) | (simp[go_sem];done))) (first | (go_at_call 243;(with_reducible refine(zh5 (xs:=s.locals) (Ty.up _ eb gF) ey).mono ?_);rw[dW.out];rintro e v1 ⟨rfl,bb⟩;have e4:fF w7 v1:=(fF.trans (b:=_) gF bb);have q2:=za (fF.trans (b:=_) gF bb) q2;have b1:=za (fF.trans (b:=_) gF bb) b1) | (go_at_call 262;(with_reducible refine(Kb (aa.out.fO (e4.trans gF)) hO bk aM eo bN el eg bd).mono ?_);rintro e w8 ⟨rfl,L8,ap⟩;obtain⟨_,_,-,-,-,-,-,-,-,q2,-,-,-⟩:=ap.cells;obtain⟨-,b1,-,-,-,-⟩:=jq (show w8.heap[g8]?=_ from(ap.kb _ (.head _)).1)))
    all_goals
     go_wp2_with(fail)
     have a6:=ap.more (N':=2*(k+1)) (by omega)
     clear q2 b1 bf bl aa ap
     have a3:=fE a6
     clear a6
     go_roundw
     exact⟨k+1,L2,(fun j=>if j=k then zz else zf j),(fun j=>if j=k then (nn:Int) else h j),(jC P.E m6 s ix k s.chain).depth,L8,by go_num,MO ac,MS hle,fE (iF.drop (by rw[ao.out,a4.out,an.out,aD.out,aV.out];exact a3.out) (fun _ h=>by cases h)),ah,a1,af,a8.out,ai,a7.out,a9.out,ag.out,aT⟩
     exact gL
   by_cases k2:x'.Kind=2
   ·as_aux_lemma=>
    have ad:Hid (L2=⟨(zv P.E m6 17 0 k s.chain).fZ (m6.depth-1),L1.leaves,L1.fR.set k (nn:Int),L1.fT⟩):=fE (by
     rw[<-aU.out];unfold je;simp only;rw[Lt k4,Lt k7,aO.out,bp.out,aP.out,Lt k1,Lu k2]
     rfl)
    have ao:Hid (zV L2.m L2.fT ((k+1:Nat):Int)=(zv P.E m6 17 0 k s.chain).fZ (m6.depth-1)):=fE (by
     rw[a1.out,ad.out];unfold zV;rw[uZ (by rw[a0];exact k7)]
     rfl)
    have a4:Hid (L2.leaves=L1.leaves):=fE (by rw[ad.out]);have an:Hid (jm P.E.p i' (fun j=>if j=k then zz else zf j) (k+1)=jm P.E.p i' zf k):=fE (by rw[uO (by rw[a0];exact k4) (by rw[a0,k2];decide) (by rw[a0,k2];decide),th a5.out.1]);rw[k2] at b0;go_wp2_with(first | (go_at_call 248;(with_reducible refine(AA aa.out bk aM (iu (by omega)) (iu (by omega)) bd bL bM).mono ?_);rintro e9 w8 ⟨rfl,L8,ap⟩));have a6:=ap.more (N':=2*(k+1)) (by omega);clear b0 b1 b2 b3 bf bl aa ap;have a3:=fE a6;clear a6;go_roundw;exact⟨k+1,L2,(fun j=>if j=k then zz else zf j),(fun j=>if j=k then (nn:Int) else h j),(m6.depth + -1),L8,by go_num,MO ac,MS hle,fE (iF.drop (by rw[ao.out,a4.out,an.out,aD.out,aV.out];exact a3.out) (fun _ h=>by cases h)),ah,a1,af,a8.out,ai,a7.out,a9.out,ag.out,aT⟩;exact gL
   by_cases k6:x'.Kind=6
   ·as_aux_lemma=>
    have ad:Hid (L2=zR P.E s k U ⟨m6,L1.leaves,L1.fR.set k (nn:Int),L1.fT⟩):=fE (by
     rw[<-aU.out];unfold je;simp only
     rw[Lt k4,Lt k7,aO.out,bp.out,aP.out,Lt k1,Lt k2,Lu k6])
    have ao:Hid (zV L2.m L2.fT ((k+1:Nat):Int)=(zR P.E s k U ⟨m6,L1.leaves,L1.fR.set k (nn:Int),L1.fT⟩).m):=fE (by
     rw[a1.out,ad.out];unfold zV;rw[uZ (by rw[a0];exact k7)]
     rfl)
    have a4:Hid (L2.leaves=(zR P.E s k U ⟨m6,L1.leaves,L1.fR.set k (nn:Int),L1.fT⟩).leaves):=fE (by rw[ad.out]);have an:Hid (jm P.E.p i' (fun j=>if j=k then zz else zf j) (k+1)=jm P.E.p i' zf k):=fE (by rw[uO (by rw[a0];exact k4) (by rw[a0,k6];decide) (by rw[a0,k6];decide),th a5.out.1]);rw[k6] at b0;go_wp2_with(first | (go_at_call 263;(with_reducible refine(JH (hd:=L1.fR.set k (nn:Int)) (ex:=L1.fT) aa.out hR.env hO bk aM dN bN bd).mono ?_);rintro e9 w8 ⟨rfl,cw,L8,ap⟩));have a6:=ap.more (N':=2*(k+1)) (by omega);clear b0 b1 b2 b3 bf bl aa ap;have a3:=fE a6;clear a6;go_roundw;exact⟨k+1,L2,(fun j=>if j=k then zz else zf j),(fun j=>if j=k then (nn:Int) else h j),cw,L8,by go_num,MO ac,MS hle,fE (iF.drop (by rw[ao.out,a4.out,an.out,aD.out,aV.out];exact a3.out) (fun _ h=>by cases h)),ah,a1,af,a8.out,ai,a7.out,a9.out,ag.out,aT⟩;exact gL
   have d8:x'.Kind=3∨x'.Kind=5:=JX (zX.1 (hR.env.pc.kind k x' HX.out)) (ae k x' ac aq HX.out).1 k1 k2 k4 k6 k7
   as_aux_lemma=>
    have ad:Hid (L2.m=(zv P.E m6 11 0 k s.chain).fZ (m6.depth-1)/\L2.leaves=L1.leaves):=fE (by
     rw[<-aU.out];unfold je;simp only;rw[Lt k4,Lt k7,aO.out,bp.out,aP.out,Lt k1,Lt k2,Lt k6]
     exact⟨rfl,rfl⟩)
    have ao:Hid (zV L2.m L2.fT ((k+1:Nat):Int)=(zv P.E m6 11 0 k s.chain).fZ (m6.depth-1)):=fE (by
     rw[a1.out,ad.out.1];unfold zV;rw[uZ (by rw[a0];exact k7)]
     rfl)
    have a4:=fE ad.out.2;obtain⟨n6,cn⟩:∃ n,m6.items.length=n:=⟨_,rfl⟩
    have c2:zz=(n6:Int):=by rw[cu.out d8,aO.out,bp.out,cn]
    have an:Hid (jm P.E.p i' (fun j=>if j=k then zz else zf j) (k+1)=jg (jm P.E.p i' zf k) k (n6:Int)):=fE (by
     rw[Jb ac (by rw[a0];exact d8),th a5.out.1];simp only[Nx]
     rw[c2])
    obtain⟨_,_,_,z8,_⟩:=aa.out.cells;rw[cn] at z8;have cZ:fV (n6:Int):=iu (by omega);obtain⟨nz,d4,ar⟩:=aa.out.mz;replace ar:gY w7 gz nz (jm P.E.p i' zf k):=ar;have d5:nz<maxLen:=by show nz<2 ^ 63-1;omega
    have eK:=fE cn;clear cn c2;have bF:=fun w8 (c4:gY w8 gz (nz+1) (jg (jm P.E.p i' zf k) k (n6:Int))) (c7:fJ [gz] w7 w8)=>aa.out.ur (N':=2*(k+1)) c4 c7 (by omega) (by omega);rcases d8 with k3 | k3
    all_goals
     rw[k3] at b0
     go_wp2_with(first | (refine xz ar bd cZ d5 rfl (.tmp 101) (.tmp 102) (.tmp 107) rfl rfl rfl rfl ?_;intro w8 c4 c7) | (go_at_call 248;(with_reducible refine(AA (bF _ c4 c7) bk aM (iu (by omega)) (iu (by omega)) bd bL bM).mono ?_);rintro e9 w9 ⟨rfl,L8,a6⟩))
     clear b0 b1 b2 b3 bf bl aa bF c4 c7 ar z8
     have a3:=fE a6
     clear a6
     go_roundw
     exact⟨k+1,L2,(fun j=>if j=k then zz else zf j),(fun j=>if j=k then (nn:Int) else h j),(m6.depth + -1),L8,by go_num,MO ac,MS hle,fE (iF.drop (by rw[ao.out,a4.out,an.out,aD.out,aV.out];exact a3.out) (fun _ h=>by cases h)),ah,a1,af,a8.out,ai,a7.out,a9.out,ag.out,aT⟩
     exact gL
  ·obtain rfl:k=e'+1:=by omega
   have eN:¬ (((e'+1:Nat):Int)<=(e':Int)):=by omega
   have ev:¬ ((e':Int)+1<=(e':Int)):=by omega
   have HL:Hid (L1=LF):=fE (by have h9:=hG.out;rw[Mq] at h9;rw[<-h9];cases P.E.p.drop (e'+1) <;> rfl);have e3:Hid (zV L1.m L1.fT ((e'+1:Nat):Int)=L1.m):=fE (by rw[bB.out];exact CX he bn aN _);go_wp2_with(fail);exact MF (v:=.tuple #[]) (by simp[Ly,results249,go_sem]) rfl ⟨rfl,dep,by rw[dZ.out,<-HL.out];have h9:=aG.out;rw[e3.out] at h9;exact⟨L',h9.st,h9.on,h9.nw⟩⟩
end Go.Proofs.YtiihkapmggfjkaaGreat
