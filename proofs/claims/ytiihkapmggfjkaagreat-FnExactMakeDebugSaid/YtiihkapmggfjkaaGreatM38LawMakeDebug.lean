/-
  PART.
-/
import Derived.Test.YtiihkapmggfjkaaGreatM36LawMakeDebug
import Derived.Test.YtiihkapmggfjkaaGreatM37LawMakeDebug
set_option linter.unusedVariables false
set_option linter.unusedSimpArgs false
set_option maxRecDepth 100000
set_option maxHeartbeats 8000000
namespace Go.Proofs.YtiihkapmggfjkaaGreat
open Value renaming slice->J,int->F,bool->X,string->G
open IntKind renaming i64->I,wrap->Ll
open Option renaming none->V,some->H
open Obj renaming cells->C
open Bool renaming false->U,true->M
open Go renaming World->N,results->Ly,Value->LA,Calls->LR,Addr->Mh,yielded->NA
open World renaming cell?->Lg,frozen?->LD
open RowKit renaming intOf->Ml
open List renaming take_succ_cons->Mm,take_zero->MN
open Region renaming wanted->MI,ready->MK,Mode->Nz,noSelect->ND,free->Oq
open Tryz
open Go.RowKit
variable {Aj:K Mh}{L Lm Sj pd:Q Nat}{P:ig}{T:gT}{W W' W1 W2:N}{b cj gf go gz i n:Nat}{fs fs':Q Int}{m m':fW}{s:fL}{v7:LA}{x:fG}
theorem yt:∀(l:Q D)(v:D)(i:Nat),ja l v i=m5 l v i
 | [],_,_=>rfl
 | y::r,v,i=>by
  unfold ja m5;by_cases h:v=y
  ·rw[Lu h,Lu h.symm]
  ·rw[Lt h,Lt (fun e=>h e.symm),yt r]
theorem E5 (E:gd)(fs:Q Int)(pd:Q Nat)(m:fW)(g:Int):zT E fs (iv pd m) g=zT E fs m g:=by
 unfold zT;rw[lN]
theorem IC {E:gd} (h:ia pd m)(s:fL)(i line:Int)(st:Bool):nW E (iv pd m) s i line st=iv pd (nW E m s i line st):=by
 rw[wE (m:=iv pd m) rfl rfl rfl,wE (m:=m) rfl rfl rfl,wj h];rfl
theorem ia.acc {E:gd} (h:ia pd m)(s:fL)(i line:Int)(st:Bool):ia pd (nW E m s i line st):=by
 rw[wE (m:=m) rfl rfl rfl];exact(h.emit _ _ _ _).fZ _
def kr (P:ig)(T:gT)(Z:iM)(v7:LA)(pd:Q Nat)(m:fW)(fs:Q Int)(s:fL)(W:N)(L:Q Nat):Prop:=ia pd m/\jI P (iv pd m) fs W L/\iU T Z s v7 W L
def gE (P:ig)(T:gT)(Z:iM)(v7:LA)(pd:Q Nat)(m':fW)(fs':Q Int)(s:fL)(W:N)(L:Q Nat)(W':N):Prop:=∃ L',kr P T Z v7 pd m' fs' s W' L'/\fJ L W W'/\∀ b∈L',b∈L∨W.heap.size<=b
theorem kr.fO {P:ig}{T:gT}{Z:iM}{v7:LA}{pd:Q Nat}{m:fW}{fs:Q Int}{s:fL}{W W':N}{L:Q Nat}(h:kr P T Z v7 pd m fs s W L)(hg:fF W W'):kr P T Z v7 pd m fs s W' L:=⟨h.1,h.2.1.fO hg,h.2.2.fO hg⟩
theorem gE.refl {P:ig}{T:gT}{Z:iM}{v7:LA}{pd:Q Nat}{m:fW}{fs:Q Int}{s:fL}{W:N}{L:Q Nat}(h:kr P T Z v7 pd m fs s W L):gE P T Z v7 pd m fs s W L W:=⟨L,h,fJ.refl _ _,fun _ hb=>.inl hb⟩
theorem gE.from {Z:iM} (hg:fF W W1)(h:gE P T Z v7 pd m fs s W1 L W2):gE P T Z v7 pd m fs s W L W2:=by
 exact mU
theorem gE.fO {P:ig}{T:gT}{Z:iM}{v7:LA}{pd:Q Nat}{m:fW}{fs:Q Int}{s:fL}{W W' W2:N}{L:Q Nat}(h:gE P T Z v7 pd m fs s W L W')(hg:fF W' W2):gE P T Z v7 pd m fs s W L W2:=by
 obtain⟨L',h1,h2,h3⟩:=h;exact⟨L',h1.fO hg,h2.trans (hg.only L),h3⟩
theorem gE.trans {Z:iM} {m2:fW} {f2:Q Int} {s2:fL} {L1:Q Nat} (ho:fJ L W W1)(hl:∀ b∈L1,b∈L∨W.heap.size<=b)(k:gE P T Z v7 pd m2 f2 s2 W1 L1 W2):gE P T Z v7 pd m2 f2 s2 W L W2:=by
 exact mS
theorem kr.put {Z:iM} (h:kr P T Z v7 pd m fs s W L)(hp:ia pd m')(k:gR P (iv pd m') fs' W L W'):gE P T Z v7 pd m' fs' s W L W':=by
 obtain⟨L',h1,h2,h3⟩:=k;exact⟨L',⟨hp,h1,h.2.2.next h2 h3⟩,h2,h3⟩
theorem kr.add {Z:iM} {code arg line d e:Int} {chain:Q Int} (h:kr P T Z v7 pd m fs s W L)(hg:fF W W1)(k:gR P ((zv P.E (iv pd m) code arg line chain).fZ d) fs W1 L W')(hd:d=e):gE P T Z v7 pd ((zv P.E m code arg line chain).fZ e) fs s W L W':=by
 subst hd;rw[wj h.1] at k;exact gE.from hg ((h.fO hg).put ((h.1.emit code arg line chain).fZ d) k)
theorem kr.acc {P:ig}{T:gT}{Z:iM}{v7:LA}{pd:Q Nat}{m:fW}{fs:Q Int}{s:fL}{W W1 W':N}{L:Q Nat}{i line:Int}{st:Bool}(h:kr P T Z v7 pd m fs s W L)(hg:fF W W1)(k:gR P (nW P.E (iv pd m) s i line st) fs W1 L W'):gE P T Z v7 pd (nW P.E m s i line st) fs s W L W':=by
 rw[IC h.1] at k;exact gE.from hg ((h.fO hg).put (h.1.acc s i line st) k)
def EA (P:ig)(T:gT)(Z:iM)(v7:LA)(pd:Q Nat)(s:fL)(rep:Int->fW->fW)(fs:Q Int)(k d b:Nat):Prop:=∀(m:fW)(W:N)(L:Q Nat)(g:Int),kr P T Z v7 pd m fs s W L->iq P.E m->m.items.length<200->isFun P.E.p g->zT P.E fs m g=M->((zU P.E.p g).length:Int)<=m.depth->m.depth<=iP d->
 LR prog 269 #[.pointer (H ⟨P.g,0,V⟩),.pointer (H ⟨Z.gs,0,V⟩),F I k,F I g,F I b] W fun r W'=>r=.returned (.tuple #[])/\gE P T Z v7 pd (rep g m) fs s W L W'
theorem zsZ {Z:iM} {rep:Int->fW->fW} {k d:Nat} {xl:fG} {Ax:K Mh} {cx:Nat} (hR:kX P)(hs:iA P.E s)(hO:nS P.E Z s)(hrW:EA P T Z v7 pd s rep fs k d b)(hrO:pz P.E rep fs d)(hfs:fs.length=s.chain.length+1)(hx:P.E.p[k]?=H xl)(hX:(iz.sl 159).R P.Y P.Y.heap.size [J Ax xl.Expr.length cx] xl.Expr) :
  ∀(n:Nat) (e:Ex),e.size<=n->∀{a:Nat} {rs:Q gu} {m:fW} {W:N} {L:Q Nat},kr P T Z v7 pd m fs s W L->e.wf->xl.Expr.drop a=e.flat++rs->zB P.E.p s.locals e.flat=M->iq P.E m->max m.items.length (200+iE d)+e.size<=8000->0<=m.depth->m.depth+e.size<=iP d+1->
  LR prog 261 #[.pointer (H ⟨P.g,0,V⟩),.pointer (H ⟨Z.gs,0,V⟩),F I k,J Ax xl.Expr.length cx,F I a,F I b] W fun r W'=>r=.returned (.tuple #[])/\gE P T Z v7 pd (e.comp P.E rep fs s k m) fs s W L W':=by
 have aZ:=fE hfs;clear hfs;intro n;induction n with
 | zero=>intro e he;have:=e.size_pos;omega
 | succ n ih=>
 intro e he a rs m W L h hw hd aC hm af ck aM
 match e,he,hw,hd,aC,af,aM with
 | .node t ks,he,hw,hd,aC,af,aM=>
 have cp:=(Lh.1 hx).1;have c4:=hR.env.pc.len;have ab:=(hR.hs xl (LP hx)).2;have aQ:=h.2.1.iX.2.2.2.2;obtain⟨aP,aa⟩:=pw (show xl.Expr.drop a=t::(ks.flat++rs) from hd);have bM:a<xl.Expr.length:=(Lh.1 aP).1;have ay:=Ty.up _ hX aQ;obtain⟨gt,ot,t',ao,bX,aT,k0,k1,k2,bk,bn,bs⟩:=mj ay bM;obtain rfl:t'=t:=by rw[aP] at aT;injection aT with h;exact h.symm
 have ch:(a:Int)<(xl.Expr.length:Int):=by omega
 have ae:=zhc (w:=W) ay ab hw hd;have a3:=fun(w':N) (hg:fF W w')=>zhc (Ty.up _ ay hg) ab hw hd;clear ae;have an:=ks.iO (a+1);obtain⟨xs,aW⟩:∃ xs,ks.gD (a+1)=xs:=⟨_,rfl⟩
 rw[aW] at a3 an;have bE:=fE aW;have an:=fE an;have HX:=fE hx;have HH:=fE h;have bo:Hid (iL t'=(ks.len:Int)):=fE hw.2.1;have HW:=fE hw;have bm:=fE ao;clear hx aT aP hd aW h hw ay;subst ao;go_enter func261,ntmps261;go_wp2_with(first | (go_at_call 266;(with_reducible refine(a3 _ gF).mono ?_);rintro e w1 ⟨A1,c1,S1,rfl,b4,b8,a1⟩));have al:fF W w1:=fF.trans (b:=_) gF a1;have aD:Hid (w1.heap[W.heap.size]?=H (C #[F I t'.Kind,F I t'.gN,G t'.Name] 159 (0,0))):=fE (zj (Lp W _) a1);obtain⟨g8,aq⟩:∃ g8,W.heap.size=g8:=⟨_,rfl⟩
 have ap:∀ b∈S1,g8<b:=fun b hb=>by have h9:=b8 b hb;rw[<-aq];simp only[World.alloc,Array.size_push] at h9;omega
 rw[aq] at aD |-;have cd:=fE aq;have b6:∀ b∈L,b<g8:=fun b hb=>by rw[<-aq];exact HH.out.2.1.iX.2.2.1 b hb
 have ar:g8∉L:=fun hm=>by have:=b6 _ hm;omega
 have bA:Hid (∀ b∈S1,b∉L):=fE (fun b hb hm=>by have h1:=b6 _ hm;have h2:=ap b hb;omega);have bv:=fE b4;have bz:=fE (gE.refl (HH.out.fO al));have c3:ks.size<=n:=by simp only[Ex.size] at he;omega
 have aX:=fE aa
 have av:zD P.E.p s.locals t'=M/\zB P.E.p s.locals ks.flat=M:=by
  have h9:=aC;simp only[Ex.flat,zB,List.all_cons,LC] at h9;exact h9
 have aE:=fE av;have bg:=ks.jd;simp only[Ex.size] at af aM he;have bN:iP d<=900:=by unfold iP;omega
 have bc:iE d<=8000:=by omega
 have cj:a+1+ks.size<=xl.Expr.length:=by
  have h9:=MY List.length aX.out;rw[Lj,ks.gw,NM] at h9;omega
 have bw:=fE hm;have ce:=fE hX;clear aq aa aC av k0 k1 k2 hm b8 ap b4 a1 a3 hX;go_loopw [25] (fun z25 wr=>∃(j nx:Nat) (qs:gj) (mq:fW),z25=F I j/\j+qs.len=ks.len/\nx+qs.size=a+1+ks.size/\qs.size<=ks.size/\ks.len+qs.size<=ks.size+qs.len/\Hid (xs.drop j=qs.gD nx)/\Hid (xl.Expr.drop nx=qs.flat++rs)/\Hid qs.wf/\Hid (zB P.E.p s.locals qs.flat=M)/\Hid (gE P T Z v7 pd mq fs s w1 L wr)/\Hid (qs.comp P.E rep fs s k mq=ks.comp P.E rep fs s k m)/\Hid (iq P.E mq)/\mq.depth=m.depth+(ks.len:Int)-(qs.len:Int)/\(max mq.items.length (200+iE d)+qs.size<=7999)) (fun z25 _=>ks.len-(Ml z25).toNat)
 case atStart=>exact⟨0,a+1,ks,m,rfl,by omega,rfl,Lz _,by omega,fE bE.out.symm,aX,fE HW.out.2.2,fE aE.out.2,bz,fE rfl,bw,by omega,by omega⟩
 case round=>
  obtain⟨j,nx,qs,mq,rfl,aR,aS,bi,bh,bK,hD,b9,bJ,hN,hC,aI,aA,bd⟩:=hrel;cases qs with
  | cons e1 r=>
   simp only[gj.size,gj.len] at aR aS bi bh aA bd;have cq:=r.jd;have cm:=e1.size_pos;obtain⟨L1,a6,a5,ac⟩:=hN.out;have aj:=b9.out.1;have ah:xl.Expr.drop nx=e1.flat++(r.flat++rs):=by have h9:=hD.out;simpa only[gj.flat,LZ] using h9
   have a9:zB P.E.p s.locals e1.flat=M/\zB P.E.p s.locals r.flat=M:=by
    have h9:=bJ.out;simp only[gj.flat,zB,OD,LC] at h9;exact h9
   obtain⟨bj,bl⟩:=pw (show xs.drop j=(nx:Int)::r.gD (nx+e1.size) from bK.out);have c2:j<xs.length:=by have h9:=an.out;omega
   have c0:(j:Int)<(xs.length:Int):=by omega
   have b5:=bv.out.fU a5 bA.out;obtain⟨ga,oa,va,bG,aU,ka,kI⟩:=lR b5.read c2;obtain rfl:va=(nx:Int):=by rw[bj] at aU;injection aU with h;exact h.symm
   subst bG;have aw:=Ex.iB hR.env hs hrO (k:=(k:Int)) ⟨by omega,by omega⟩ e1 mq aj a9.1 aI.out (by omega) (by omega);have h7:=aw.cnt;have h8:=aw.depth;have h9:=aw.gK;have bB:=fE aw;have a4:=ih e1 (by omega) a6 aj ah a9.1 aI.out (by omega) (by omega) (by omega);have br:Hid (xl.Expr.drop (nx+e1.size)=r.flat++rs):=fE (by rw[<-Nh,ah,<-e1.gw,NP]);have bq:Hid (r.comp P.E rep fs s k (e1.comp P.E rep fs s k mq)=ks.comp P.E rep fs s k m):=fE (by rw[<-hC.out];rfl);have aF:=fE a9.2;have aG:=fE b9.out.2;have bD:=fE bl;have cs:Ll I ((j:Int)+1)=(j:Int)+1:=iw;clear aw ah a9 aj bj aU bl b5;go_wp2_with(first | (go_at_call 261;(with_reducible refine a4.mono ?_);rintro e w2 ⟨rfl,h2⟩));go_roundw;exact⟨j+1,nx+e1.size,r,_,by go_num,by omega,by omega,by omega,by omega,bD,br,aG,aF,fE (gE.trans a5 ac h2),bq,fE bB.out.ok,by omega,by omega⟩;exact gL
  | nil=>
   simp only[gj.size,gj.len,Nat.add_zero] at aR aS bi bh aA bd;obtain⟨L1,a6,a5,ac⟩:=hN.out;have HK:Hid (mq=ks.comp P.E rep fs s k m):=fE hC.out;obtain rfl:j=xs.length:=by have h9:=an.out;omega
   have c0:¬ ((xs.length:Int)<(xs.length:Int)):=by omega
   have hC:=a6.2.1;have ad:=a6.2.2;obtain⟨q0,q1,q2,q3,q4,q5,q6,q7,qf,ql⟩:=jA ad.box;obtain⟨k0,k1,k2,kf,kl⟩:=tM (lO a5 ar aD.out);obtain⟨Ai,ci,Af,cf,z0,z2,z5,z6,z7,z8,z9,cc,zf,zl⟩:=hC.cells;have b1:=fE q5;have bb:=ad.chain.read;have bO:=hs.chain.1;have az:s.chain.length<=1000:=by omega
   have au:(iv pd mq).items.length<=100000:=by rw[lN];omega
   have aB:fV (k:Int):=iu (by omega);have bQ:0<=mq.depth/\mq.depth<=1000:=⟨by omega,by omega⟩
   have aN:fV (iv pd mq).depth:=iu (by show -9223372036854775808<=mq.depth/\mq.depth<=9223372036854775807;omega);have bP : -1000000<=(iv pd mq).depth/\(iv pd mq).depth<=1000000:=by show -1000000<=mq.depth/\mq.depth<=1000000;omega
   have b2:fV 0:=iu (by omega);have aY:=fE aA;clear aA aS aR q0 q1 q3 q4 q6 q7 qf z2 z5 z6 z7 z8 z9 cc zf;by_cases q0:t'.Kind=0
   ·have r0:(t'.Kind == 0)=M:=LM.2 q0
    have r7:(t'.Kind == 7)=U:=by rw[q0];rfl
    have HQ:Hid ((Ex.node t' ks).comp P.E rep fs s k m=(zv P.E mq 0 t'.gN k s.chain).fZ (mq.depth+1)):=fE (by rw[HK.out];show kL _ _ _ _ _ _ _=_;unfold kL;rw[Lu q0];rfl);have aa:fV ((iv pd mq).depth+1):=iu (by show -9223372036854775808<=mq.depth+1/\mq.depth+1<=9223372036854775807;omega);clear q0 q2 z0;go_wp2_with(first | (go_at_call 248;(with_reducible refine(zd4 hC rfl q5 bb az au b2 bn aB aN aa).mono ?_);rintro e w3 ⟨rfl,h3⟩));exact MF (v:=.tuple #[]) (by simp[Ly,results261,go_sem]) rfl ⟨rfl,by rw[HQ.out];exact gE.from al (gE.trans a5 ac (a6.add gF h3 rfl))⟩
   by_cases q1:t'.Kind=1
   ·have r0:(t'.Kind == 0)=U:=Lk.2 q0
    have r1:(t'.Kind == 1)=M:=LM.2 q1;have r7:(t'.Kind == 7)=U:=by rw[q1];rfl
    have bf:jy s.locals t'.Name=M:=by
     have h9:=aE.out.1;unfold zD at h9;rwa [Lu q1] at h9
    have bZ:=tE s.locals t'.Name 0 bf;obtain⟨ix,a8⟩:∃ v,m5 s.locals t'.Name 0=v:=⟨_,rfl⟩
    rw[a8] at bZ;have bx:Hid (ja s.locals t'.Name 0=ix):=fE (by rw[yt,a8]);have HQ:Hid ((Ex.node t' ks).comp P.E rep fs s k m=nW P.E mq s ix k U):=fE (by rw[HK.out];show kL _ _ _ _ _ _ _=_;unfold kL nW;rw[Lt q0,Lu q1,Lt (by decide),a8]);have c6:=hs.locals.2;have c5:s.locals.length<=8796093022208:=by omega
    have bY:0<=ix/\ix<=100:=⟨by omega,by omega⟩
    have cn:=hs.first;have bR : -1000<=s.first/\s.first<=1000:=⟨by omega,by omega⟩
    have cg:=hR.env.args;have bL:0<=P.E.args/\P.E.args<=100:=⟨by omega,by omega⟩
    have bI:=ad.locals.read;clear q0 q1 bf a8 z0;go_upto_region 15 with(fail);clear k0 k1 q5;refine kC (fun w'=>Lg w' ⟨Z.gs,2,V⟩=H (J T.Al s.locals.length T.cl)/\Lg w' ⟨g8,2,V⟩=H (G t'.Name)) 10 (by kernel_rfl) (Ls (zb q2) (zb k2)) (fun hH=>?_);have ag:fF wr wr.drew:=(fF.refl _).drew;clear q2 k2;generalize wr.drew=wx at ag hH |-;obtain⟨q2,k2⟩:=id hH;refine .tk 0 [10] hH ?_;refine .tk 1 [10] hH ?_;refine .tk 2 [10] hH ?_;refine .tk 3 [4,5,6,9,10] hH ?_;refine .tk 4 [5,6,9,10] hH ?_;refine .tk 5 [6,9,10] hH ?_;refine .tk 6 [9,10] hH ?_;refine .tk 7 [8,9,10] hH ?_;refine .tk 8 [9,10] hH ?_;refine fX.one (i:=9) (by kernel_rfl) rfl (fun Le hK=>?_);go_simp;go_at_call 243;(with_reducible refine(zh5 (xs:=s.locals) (Ty.up _ bI ag) c5).mono ?_);rw[bx.out];rintro e v1 ⟨rfl,a1⟩;have a0:=ag.trans a1;have q2:=za a1 q2;have k2:=za a1 k2;refine hK.out _ _ (Ls q2 k2) (fun hI=>?_);clear hK hH;have hH:=hI
    try simp only[lay]
    refine fX.last (by kernel_rfl) rfl (by kernel_rfl) (fun Le hK=>?_);go_simp;go_at_call 262;(with_reducible refine(DE (hC.fO a0) rfl (ad.fO a0) hO az au bY bP bR bL aB).mono ?_);rintro e w3 ⟨rfl,h3⟩;refine hK.out _ _ ?_;clear hK
    try simp only[lay]
    go_wp2_with(fail);exact MF (v:=.tuple #[]) (by simp[Ly,results261,go_sem]) rfl ⟨rfl,by rw[HQ.out];exact gE.from al (gE.trans a5 ac (a6.acc a0 h3))⟩
   by_cases q7:t'.Kind=7
   ·have r0:(t'.Kind == 0)=U:=Lk.2 q0
    have r1:(t'.Kind == 1)=U:=Lk.2 q1;have r7:(t'.Kind == 7)=M:=LM.2 q7;obtain⟨gi,xg,aO,ax,ak,aV⟩:=xo aE.out.1 q7;have bW:=(Lh.1 ax).1;have bt:=fE aO;have bC:=fE ax;have aH:=fE ak;have cr:=yI HW.out.1 q7;have bV:isFun P.E.p (gi:Int):=⟨gi,rfl,xg,ax,ak⟩
    have bu:Hid ((zU P.E.p (gi:Int)).length=ks.len):=fE (by have h8:=bo.out;rw[uM HW.out.1 q7] at h8;rw[qk ax];omega);have b0:Hid ((Ex.node t' ks).comp P.E rep fs s k m=if zT P.E fs mq (gi:Int)=M then rep (gi:Int) mq else (zv P.E mq 12 (nL P.E.p (gi:Int)) k s.chain).fZ (mq.depth-t'.gN+1)):=fE (by rw[HK.out];show kL _ _ _ _ _ _ _=_;unfold kL;rw[Lt q0,Lt q1,Lu q7,aO]);have bT:0<=(gi:Int)/\(gi:Int)<=1000:=⟨by omega,by omega⟩
    have bS:fs.length<=100:=by have h9:=aZ.out;omega
    have c8:=hR.up hC.iX.2.2.2.2;have c7:=hR.hl;have ct:Ll I (1-t'.gN)=1-t'.gN:=iw;have aa:fV ((iv pd mq).depth+(1-t'.gN)):=iu (by show -9223372036854775808<=mq.depth+(1-t'.gN)/\mq.depth+(1-t'.gN)<=9223372036854775807;omega);have bF:fV 12:=iu (by omega);obtain⟨b7,ba⟩:∃ b7,zT P.E fs mq (gi:Int)=b7:=⟨_,rfl⟩
    have am:=fE ba;have bU:(gi:Int)≥0:=by omega
    clear q0 q1 q7 aO ax ak aV ba q2 q5;go_upto_region 9 with(fail);clear k0 k1;refine kC (fun w'=>Lg w' ⟨P.g,0,V⟩=H (J P.A P.E.p.length P.c)/\Lg w' ⟨g8,2,V⟩=H (G t'.Name)) 7 (by kernel_rfl) (Ls (zb z0) (zb k2)) (fun hH=>?_);have ag:fF wr wr.drew:=(fF.refl _).drew;clear z0 k2;generalize wr.drew=wx at ag hH |-;obtain⟨z0,k2⟩:=id hH;refine .tk 0 [7] hH ?_;refine .tk 1 [7] hH ?_;refine .tk 2 [7] hH ?_;refine .tk 3 [7] hH ?_;refine .tk 4 [7] hH ?_;refine .tk 5 [7] hH ?_;refine fX.one (i:=6) (by kernel_rfl) rfl (fun Le hK=>?_);go_simp;go_at_call 108;(with_reducible refine(zcL (Ty.up _ c8 ag) c7).mono ?_);rw[bt.out];rintro e v1 ⟨rfl,a1⟩;have a0:=ag.trans a1;have z0:=za a1 z0;have k2:=za a1 k2;refine hK.out _ _ (Ls z0 k2) (fun hI=>?_);clear hK hH;have hH:=hI
    try simp only[lay]
    refine fX.last (by kernel_rfl) rfl (by kernel_rfl) (fun Le hK=>?_);go_simp;refine hK.out _ _ ?_;clear hK
    try simp only[lay]
    have bH:=hC.fO a0;have aJ:=ad.fO a0;have bp:=fE (zj (lO a5 ar aD.out) a0);clear k2 z0 hH;go_upto_region 12 with(first | (go_at_call 268;(with_reducible refine(zoN bH hR aJ aZ.out bS au bT).mono ?_);rw[E5,am.out];rintro e w5 ⟨rfl,be⟩));have a2:=a0.trans be;have b3:=hC.fO a2;have aL:=(ad.fO a2).chain.read;obtain⟨_,_,_,_,_,q5,_,_,_,_⟩:=jA (ad.fO a2).box;have b1:=fE q5;obtain⟨k0,k1,k2,cu,cv⟩:=tM (zj bp.out be);clear q5;cases b7 with
    | true=>
     have a4:=hrW mq w5 L1 (gi:Int) (a6.fO a2) aI.out (qJ am.out).2.2.1 bV am.out (by rw[bu.out];have h9:=aY.out;omega) (by have h9:=aY.out;omega);go_wp2_with(first | (go_at_call 269;(with_reducible refine a4.mono ?_);rintro e w6 ⟨rfl,h6⟩));exact MF (v:=.tuple #[]) (by simp[Ly,results261,go_sem]) rfl ⟨rfl,by rw[b0.out,am.out,Lu rfl];exact gE.from al (gE.trans a5 ac (gE.from a2 h6))⟩
    | false=>
     have aK:fV (nL P.E.p (gi:Int)):=iu (by have h9:=Ce P.E.p hR.env.pc.ki (gi:Int);omega);go_upto_region 19 with(fail);clear k0 k2;refine kC (fun w'=>Lg w' ⟨g8,1,V⟩=H (F I t'.gN)) 9 (by kernel_rfl) (zb k1) (fun hH=>?_);have ai:fF w5 w5.drew:=(fF.refl _).drew;clear k1;generalize w5.drew=wx5 at ai hH |-;have k1:=id hH;refine .tk 0 [9] hH ?_;refine .tk 1 [9] hH ?_;refine .tk 2 [9] hH ?_;refine .tk 3 [5,9] hH ?_;refine .tk 4 [5,9] hH ?_;refine .tk 6 [7,8,9] hH ?_;refine .tk 7 [8,9] hH ?_;refine .tk 8 [9] hH ?_;refine fX.one (i:=5) (by kernel_rfl) rfl (fun Le hK=>?_);go_simp;go_at_call 270;(with_reducible refine(zoG (b3.fO ai) hR bC.out aH.out).mono ?_);rintro e v1 ⟨rfl,a1⟩;have a7:=ai.trans a1;have k1:=za a1 k1;refine hK.out _ _ k1 (fun hI=>?_);clear hK hH;have hH:=hI
     try simp only[lay]
     refine fX.last (by kernel_rfl) rfl (by kernel_rfl) (fun Le hK=>?_);go_simp;go_at_call 248;(with_reducible refine(zd4 (b3.fO a7) rfl (za a7 b1.out) (Ty.up _ aL a7) az au bF aK aB aN aa).mono ?_);rintro e w3 ⟨rfl,h3⟩;refine hK.out _ _ ?_;clear hK
     try simp only[lay]
     go_wp2_with(fail);exact MF (v:=.tuple #[]) (by simp[Ly,results261,go_sem]) rfl ⟨rfl,by rw[b0.out,am.out,Lt (by decide)];exact gE.from al (gE.trans a5 ac (a6.add (a2.trans a7) h3 (by show mq.depth+(1-t'.gN)=_;omega)))⟩
   have r0:(t'.Kind == 0)=U:=Lk.2 q0;have r1:(t'.Kind == 1)=U:=Lk.2 q1;have r7:(t'.Kind == 7)=U:=Lk.2 q7;have co:=yJ HW.out.1;have HQ:Hid ((Ex.node t' ks).comp P.E rep fs s k m=(zv P.E mq (5+t'.Kind-2) 0 k s.chain).fZ (mq.depth-1)):=fE (by rw[HK.out];show kL _ _ _ _ _ _ _=_;unfold kL;rw[Lt q0,Lt q1,Lt q7]);have ca:Ll I (5+t'.Kind)=5+t'.Kind:=iw;have cb:Ll I (5+t'.Kind-2)=5+t'.Kind-2:=iw;have aK:fV (5+t'.Kind-2):=iu (by omega);have aa:fV ((iv pd mq).depth + -1):=iu (by show -9223372036854775808<=mq.depth + -1/\mq.depth + -1<=9223372036854775807;omega);clear q0 q1 q7 q2 z0;go_wp2_with(first | (go_at_call 248;(with_reducible refine(zd4 hC rfl q5 bb az au aK b2 aB aN aa).mono ?_);rintro e w3 ⟨rfl,h3⟩));exact MF (v:=.tuple #[]) (by simp[Ly,results261,go_sem]) rfl ⟨rfl,by rw[HQ.out];exact gE.from al (gE.trans a5 ac (a6.add gF h3 (by show mq.depth + -1=_;omega)))⟩
def wM (P:ig)(d:Nat):Prop:=∀(T:gT)(Z:iM)(pd:Q Nat)(m:fW)(s:fL)(W:N)(L:Q Nat)(fs0:Q Int)(i e:Nat),ll P T Z pd m (fs0++[s.f]) s W L->iA P.E s->nS P.E Z s->s.leaves = []->(fs0++[s.f]).length=s.chain.length+1->s.chain.length+d=3->iq P.E m->m.items.length<=5000->s.f=(i:Int)->gg P.E.p i e->Z.e=(e:Int)->Z.base=m.depth->m.start=U->0<=m.depth->m.depth<=iP (d+1)->
 LR prog 249 #[.pointer (H ⟨P.g,0,V⟩),.pointer (H ⟨Z.gs,0,V⟩)] W fun r W'=>r=.returned (.tuple #[])/\∃ dep,ik P T Z pd ((zH P.E (d+1) (fs0++[s.f]) s m).1.fZ dep) (fs0++[s.f]) (s.wl (zH P.E (d+1) (fs0++[s.f]) s m).2) W L W'
theorem jI.pop {r:Int} (h:jI P m (fs++[r]) W L):∃ A c,Lg W ⟨P.g,10,V⟩=H (J A (fs.length+1) c)/\fs.length+1<=c/\
  (∀ W2,(Instr.sliceAt 45 (J A (fs.length+1) c) V (H (F I (fs.length:Int))) V).run prog W2=.ok (J A fs.length c) W2)/\jI P m fs (W.setCell ⟨P.g,10,V⟩ (J A fs.length c)) L/\fJ L W (W.setCell ⟨P.g,10,V⟩ (J A fs.length c)):=by
 obtain⟨Ai,ci,Si,Af,cf,Sf,h,rfl⟩:=h;have hl:(fs++[r]).length=fs.length+1:=by simp
 have hc:=Has.cut (T:=zF) (k:=fs.length) (fun h=>h.2.2.2) h.ins (by omega);rw[List.take_left] at hc;obtain⟨h1,h2⟩:=h.inside (fJ.refl Sf W) hc (fun b hb=>.inl hb);have a0:=h.ins.read;rw[hl] at a0;refine⟨Af,cf,?_,?_,(ud kJ a0 (by omega)).1,⟨Ai,ci,Si,Af,cf,Sf,h1,rfl⟩,h2⟩
 ·have h3:=(oX h.box).2.2.2.2.2.2.2.2.2.2.1
  rw[hl] at h3;exact h3
 ·obtain⟨A',c',h5,h6,_⟩:=h.ins.read
  injection h5 with h5 _
  injection h5 with hA hn hc
  omega
theorem iU.fU {T:gT}{Z:iM}{s:fL}{v7:LA}{W W':N}{L S:Q Nat}(h:iU T Z s v7 W L)(ho:fJ S W W')(hg:Z.gs∉S)(hc:∀ b∈T.Sc,b∉S)(hl:∀ b∈T.Sl,b∉S):iU T Z s v7 W' L:=
 ⟨(ho.block Z.gs (blt h.box) hg).trans h.box,h.chain.fU ho hc,h.locals.fU ho hl,h.dg,h.dc,h.dl⟩
theorem iU.base {Z:iM} (h:iU T Z s v7 W L)(hc:Z.gs∉T.Sc)(hl:Z.gs∉T.Sl)(v:Int) :
  iU T ⟨Z.gs,Z.e,Z.args,v⟩ s v7 (W.setCell ⟨Z.gs,6,V⟩ (F I v)) L/\fJ [Z.gs] W (W.setCell ⟨Z.gs,6,V⟩ (F I v)):=by
 have a0:fJ [Z.gs] W (W.setCell ⟨Z.gs,6,V⟩ (F I v)):=(fJ.refl _ _).setCell (p:=⟨Z.gs,6,V⟩) (by simp) _;exact⟨⟨jo (i:=6) (v:=F I v) h.box rfl,h.chain.fU a0 (fun b hb hm=>by simp at hm;exact hc (hm ▸ hb)),h.locals.fU a0 (fun b hb hm=>by simp at hm;exact hl (hm ▸ hb)),h.dg,h.dc,h.dl⟩,a0⟩
theorem kr.fU {P:ig}{T:gT}{Z:iM}{v7:LA}{pd:Q Nat}{m:fW}{fs:Q Int}{s:fL}{W W':N}{L S:Q Nat}(h:kr P T Z v7 pd m fs s W L)(ho:fJ S W W')(hS:∀ b∈S,b∉L/\P.Y.heap.size<=b)(hg:Z.gs∉S)(hc:∀ b∈T.Sc,b∉S)(hl:∀ b∈T.Sl,b∉S):kr P T Z v7 pd m fs s W' L:=
 ⟨h.1,h.2.1.fU ho hS,h.2.2.fU ho hg hc hl⟩
theorem jF.EP {Z:iM} (h:jF P T Z pd m fs s W Aj cj Sj Lm):kr P T Z (J Aj s.leaves.length cj) pd m fs s W Lm:=⟨h.kj,h.st,h.sc⟩
theorem jF.EN {Z:iM} {pd':Q Nat} (h:jF P T Z pd m fs s W Aj cj Sj Lm)(k:gE P T Z v7 pd' m' fs' s W Lm W'):ik P T Z pd' m' fs' s W (Z.gs::(Lm++Sj)) W':=by
 obtain⟨L',hE,h2,h3⟩:=k;exact h.next hE.1 ⟨L',hE.2.1,h2,h3⟩
theorem ll.open {Z:iM} (h:ll P T Z pd m fs s W L):∃ Aj cj Lm,kr P T Z (J Aj s.leaves.length cj) pd m fs s W Lm/\(∀ b∈Lm,b∈L)/\∀{v:LA}{pd':Q Nat}{m':fW}{fs':Q Int}{W':N},gE P T Z v pd' m' fs' s W Lm W'->ik P T Z pd' m' fs' s W L W':=by
 obtain⟨Aj,cj,Sj,Lm,h,rfl⟩:=h;exact⟨Aj,cj,Lm,h.EP,fun b hb=>by simp[hb],fun k=>h.EN k⟩
theorem kr.arg {P:ig}{T:gT}{Z:iM}{v7:LA}{pd:Q Nat}{m:fW}{fs:Q Int}{s:fL}{W:N}{L:Q Nat}(h:kr P T Z v7 pd m fs s W L){j:Nat}(hj:j<m.items.length) :
  ∃ gi ci,Lg W ⟨P.g,8,V⟩=H (J (H ⟨gi,0,V⟩) m.items.length ci)/\gi<W.heap.size/\(∀ k,LD W ⟨gi,k,V⟩=U)/\(∃ v0,Lg W ⟨gi,j*7+1,V⟩=H v0)/\∀ v,fV v->gE P T Z v7 pd (m.gU (zL m.items j v)) fs s W L (W.setCell ⟨gi,j*7+1,V⟩ (F I v)):=by
 obtain⟨gi,ci,z8,a1,_,hf,a0,_,hp,_⟩:=h.2.1.item (j:=j) (Lo (by rw[lN];exact hj));rw[lN] at z8;refine⟨gi,ci,z8,a1,hf,⟨_,a0⟩,fun v hv=>?_⟩;obtain⟨h1,h2⟩:=hp v hv
 have e:(iv pd m).gU (zL (iv pd m).items j v)=iv pd (m.gU (zL m.items j v)):=by
  show fW.mk (zL (jS pd m.items) j v) _ _ _=fW.mk (jS pd (zL m.items j v)) _ _ _;rw[C5];rfl
 rw[e] at h1;exact⟨L,⟨h.1.arg j v,h1,h.2.2.next h2 (fun b hb=>.inl hb)⟩,h2,fun b hb=>.inl hb⟩
theorem kr.mark {Z:iM} (h:kr P T Z v7 (b::pd) m fs s W L)(hn:b∉pd)(hb:b<m.items.length)(hs:m.start=U) :
  ∃ gi ci,Lg W ⟨P.g,8,V⟩=H (J (H ⟨gi,0,V⟩) m.items.length ci)/\gi<W.heap.size/\(∀ k,LD W ⟨gi,k,V⟩=U)/\(∃ v0,Lg W ⟨gi,b*7+3,V⟩=H v0)/\gE P T Z v7 pd m fs s W L (W.setCell ⟨gi,b*7+3,V⟩ (X M)):=by
 have hx:=Lo (show b<(iv (b::pd) m).items.length by rw[lN];exact hb);obtain⟨gi,ci,z8,a1,_,hf,_,a0,_,hp⟩:=h.2.1.item hx;rw[lN] at z8;obtain⟨h1,h2⟩:=hp M;have e:=H5 h.1 hn (show (jS (b::pd) m.items)[b]?=_ from hx)
 have e2:(iv (b::pd) m).gU ((iv (b::pd) m).items.set b { (iv (b::pd) m).items[b]'(by rw[lN];exact hb) with Start:=M })=iv pd m:=by
  show fW.mk ((jS (b::pd) m.items).set b _) _ _ _=fW.mk (jS pd m.items) _ _ _;rw[<-e];rfl
 rw[e2] at h1;exact⟨gi,ci,z8,a1,hf,⟨_,a0⟩,L,⟨h.1.close hb hs,h1,h.2.2.next h2 (fun b hb=>.inl hb)⟩,h2,fun b hb=>.inl hb⟩
theorem kr.begun {P:ig}{T:gT}{Z:iM}{v7:LA}{pd:Q Nat}{m:fW}{fs:Q Int}{s:fL}{W:N}{L:Q Nat}(h:kr P T Z v7 pd m fs s W L):kr P T Z v7 (m.items.length::pd) m.begun fs s W L:=⟨h.1.begin,by rw[CM];exact h.2.1,h.2.2⟩
theorem kr.dep {Z:iM} (h:kr P T Z v7 pd m fs s W L)(d:Int):gE P T Z v7 pd (m.fZ d) fs s W L (W.setCell ⟨P.g,9,V⟩ (F I d)):=by
 obtain⟨h1,h2⟩:=h.2.1.num (i:=9) (v:=F I d) (m':=(iv pd m).fZ d) rfl (fun _ _ _ _ _ _ _ _ _=>rfl);exact⟨L,⟨h.1.fZ d,h1,h.2.2.next h2 (fun b hb=>.inl hb)⟩,h2,fun b hb=>.inl hb⟩
theorem gY.qF {f:Int->K Int} (h:gY W b n f){a v:Int}(ha:fV a)(hf:f a=H v):(Instr.lookup 284 (.map (H b)) (F I a) M).run prog W=.ok (.tuple #[F I v,X M]) W:=by
 have h9:=h.look_ok ha;rw[hf] at h9;exact h9
theorem gY.qE {f:Int->K Int} (h:gY W b n f){a:Int}(ha:fV a)(hf:f a=V):(Instr.lookup 284 (.map (H b)) (F I a) M).run prog W=.ok (.tuple #[F I 0,X U]) W:=by
 have h9:=h.look_ok ha;rw[hf] at h9;exact h9
theorem zsd {Z:iM} {f:Nat} {lv hd:Q Int} {ex:Q (Int × Int)} (h:ll P T Z pd m fs (s.wl lv) W L)(hR:kX P)(hO:nS P.E Z s)(hx:P.E.p[f]?=H x)(h0:x.Kind=0)(hcl:s.chain.length<=1000)(hln:m.items.length<=90000)(hlv:lv.length<=100000)(hdp : -100000<=m.depth/\m.depth<=100000)(hi:i<=1000) :
  LR prog 264 #[.pointer (H ⟨P.g,0,V⟩),.pointer (H ⟨Z.gs,0,V⟩),F I i,F I f,.map (H gz),.map (H go),.map (H gf)] W fun r W'=>r=.returned (.tuple #[])/\∃ dep,ik P T Z pd ((zR P.E s i M ⟨zZ P.E m 0 i s.chain,lv,hd,ex⟩).m.fZ dep) fs (s.wl (zR P.E s i M ⟨zZ P.E m 0 i s.chain,lv,hd,ex⟩).leaves) W L W':=by
 have ab:=(Lh.1 hx).1;obtain⟨Aj,cj,Sj,Lm,a0,rfl⟩:=h;have af:=hR.up a0.st.iX.2.2.2.2;obtain⟨gp,op,x',ah,aj,ai,ak,a8,ac,a4,p0,p1,p2,p3,w0,w1,w2,_⟩:=jb af ab;obtain rfl:x'=x:=by rw[hx] at a4;injection a4 with h;exact h.symm
 obtain⟨Ai,ci,Af,cf,z0,z2,z5,z6,z7,z8,z9,ag,zf,zl⟩:=a0.st.cells;rw[a8] at z0;rw[h0] at p0;have ae:=hR.env.pc.len;have al:(f:Int)<(P.E.p.length:Int):=by omega
 have a3:fV (i:Int):=iu (by omega);obtain⟨_,_,_,_,_,q5,_,_,_,_⟩:=jA a0.sc.box;have a1:(s.wl lv).chain.length<=1000:=hcl;have a9:fV (iv pd m).depth:=iu (by show -9223372036854775808<=m.depth/\m.depth<=9223372036854775807;omega);have aa:fV ((iv pd m).depth+1):=iu (by show -9223372036854775808<=m.depth+1/\m.depth+1<=9223372036854775807;omega)
 have ad:((zv P.E m 0 0 i (s.wl lv).chain).fZ ((iv pd m).depth+1)).items.length<=100000:=by
  show (zv P.E m 0 0 i (s.wl lv).chain).items.length<=_;rw[qT];omega
 have a2 : -1000000<=((zv P.E m 0 0 i (s.wl lv).chain).fZ ((iv pd m).depth+1)).depth/\((zv P.E m 0 0 i (s.wl lv).chain).fZ ((iv pd m).depth+1)).depth<=1000000:=by
  show -1000000<=m.depth+1/\m.depth+1<=1000000;omega
 clear z2 z5 z6 z7 z8 z9 ag zf zl p1 p2 p3 w0 w1 w2;go_enter func264,ntmps264;go_wp2_with(first | (go_at_call 248;(with_reducible refine(zd4 a0.st rfl q5 a0.sc.chain.read a1 (by rw[lN];omega) (iu (by omega)) (iu (by omega)) a3 a9 aa).mono ?_);rintro e w2 ⟨rfl,h2⟩;obtain⟨L2,a5,a7,a6⟩:=a0.add h2) | (go_at_call 263;(with_reducible refine(zph (hd:=hd) (ex:=ex) a5 hR.env hO hcl ad hlv a2 a3).mono ?_);rintro e w3 ⟨rfl,dep,h3⟩));exact Ln (v:=.tuple #[]) (by simp[Ly,results264,go_sem]) rfl ⟨rfl,dep,ik.trans a7 a6 h3⟩
theorem su {g:Prop} (f:g:=by
  go_wp2_with(fail)
  exact MF (v:=.tuple #[]) (by simp[Ly,results264,go_sem]) rfl ⟨rfl,by rw[HNV.out];exact hback (gE.trans hO2 hL2 (gE.from hgy HX.out))⟩):g:=f
theorem zsc {Z:iM} {a jn:Nat} {hv:Int} {nz no nf:Nat} {fz fo ff:Int->K Int} (h:ll P T Z pd m fs s W L)(hR:kX P)(hx:P.E.p[a]?=H x)(hk:x.Kind=3∨x.Kind=5)(hz:gY W gz nz fz)(ho:gY W go no fo)(hf:gY W gf nf ff)(hgz:gz∉L)(hgo:go∉L)(hvs:(fz a=H (jn:Int)/\fo a=V)∨(fz a=V/\fo a=H (jn:Int)))(hjn:jn<m.items.length)(hff:x.Kind=5->ff a=H hv)(hvI:fV hv)(hcl:s.chain.length<=1000)(hln:m.items.length<=90000)(hdp : -100000<=m.depth/\m.depth<=100000)(hi:i<=1000) :
  LR prog 264 #[.pointer (H ⟨P.g,0,V⟩),.pointer (H ⟨Z.gs,0,V⟩),F I i,F I a,.map (H gz),.map (H go),.map (H gf)] W fun r W'=>r=.returned (.tuple #[])/\ik P T Z pd (((if x.Kind=5 then zv P.E m 10 hv i s.chain else m).gU (zL (if x.Kind=5 then zv P.E m 10 hv i s.chain else m).items jn (if x.Kind=5 then zv P.E m 10 hv i s.chain else m).items.length))) fs s W L W':=by
 have am:=(Lh.1 hx).1;have aD:=fE h;obtain⟨Aj,cj,Lm,hE,ad,hback⟩:=h.open;have ax:=hR.up hE.2.1.iX.2.2.2.2;obtain⟨gp,op,x',az,aB,aA,aC,al,ao,ai,p0,p1,p2,p3,w0,w1,w2,_⟩:=jb ax am;obtain rfl:x'=x:=by rw[hx] at ai;injection ai with h;exact h.symm
 obtain⟨Ai,ci,Af,cf,z0,z2,z5,z6,z7,z8,z9,ay,zf,zl⟩:=hE.2.1.cells;rw[al] at z0;have av:=hR.env.pc.len;have aE:(a:Int)<(P.E.p.length:Int):=by omega
 have ap:fV (i:Int):=iu (by omega);have a1:fV (a:Int):=iu (by omega);obtain⟨_,_,_,_,_,q5,_,_,_,_⟩:=jA hE.2.2.box;have af:fV (iv pd m).depth:=iu (by show -9223372036854775808<=m.depth/\m.depth<=9223372036854775807;omega);have ag:fV ((iv pd m).depth+0):=iu (by show -9223372036854775808<=m.depth+0/\m.depth+0<=9223372036854775807;omega);have ae:=hE.2.2.chain.read;have hC:=hE.2.1;have ak:=gE.refl hE;have a3:∀ b∈Lm,b≠gz/\b≠go:=fun b hb=>⟨fun e=>hgz (e ▸ ad b hb),fun e=>hgo (e ▸ ad b hb)⟩;obtain⟨m1,a5⟩:∃ m1,(if x'.Kind=5 then zv P.E m 10 hv i s.chain else m)=m1:=⟨_,rfl⟩
 rw[a5];have a4:=fE a5;clear z2 z5 z6 z7 z8 z9 ay zf zl p1 p2 p3 w0 w1 w2 a5;go_enter func264,ntmps264;rcases hk with hk | hk
 case' inl=>
  rw[hk] at p0;have HN:Hid (gE P T Z (J Aj s.leaves.length cj) pd m1 fs s W Lm W):=fE (by rw[<-a4.out,Lt (by rw[hk];decide)];exact ak);go_upto_region 6 with(fail);obtain⟨w2,aa⟩:∃ w2,W=w2:=⟨_,rfl⟩
  replace HN:Hid (gE P T Z (J Aj s.leaves.length cj) pd m1 fs s W Lm w2):=fE (by rw[<-aa];exact HN.out);rw[aa];clear aa
 case' inr=>
  rw[hk] at p0;have aF:=hf.look a1 (hff hk);go_upto_region 6 with(first | (go_at_call 248;(with_reducible refine(zd4 hC rfl q5 ae hcl (by rw[lN];omega) (iu (by omega)) hvI ap af ag).mono ?_);rintro e w2 ⟨rfl,h2⟩))
  have HN:Hid (gE P T Z (J Aj s.leaves.length cj) pd m1 fs s W Lm w2):=fE (by
   rw[<-a4.out,Lu hk]
   exact hE.add (fF.refl _) h2 (show (iv pd m).depth+0=m.depth from by show m.depth+0=m.depth;omega))
  clear h2
 all_goals
 clear p0 z0 q5 ae hC af ag;obtain⟨L2,ac,hO2,hL2⟩:=HN.out;have an:gz∉L2/\go∉L2:=⟨fun hm=>(hL2 _ hm).elim (fun h=>(a3 _ h).1 rfl) (fun h=>by have:=hz.lt;omega),fun hm=>(hL2 _ hm).elim (fun h=>(a3 _ h).2 rfl) (fun h=>by have:=ho.lt;omega)⟩
 have aj:=hz.fU hO2 (fun hm=>(a3 _ hm).1 rfl);have ah:=ho.fU hO2 (fun hm=>(a3 _ hm).2 rfl)
 have a6:m.items.length<=m1.items.length/\m1.items.length<=m.items.length+1:=by
  rw[<-a4.out];split
  ·rw[qT];omega
  ·omega
 obtain⟨nv,a7⟩:∃ n,m1.items.length=n:=⟨_,rfl⟩
 rw[a7] at a6;have HNV:=fE a7;have a2:fV (nv:Int):=iu (by omega);have aq:(jn:Int)<(nv:Int):=by omega
 have ab:=fE ac;clear a7 ac;rcases hvs with⟨a8,a9⟩ | ⟨a8,a9⟩
 ·have ar:=aj.qF a1 a8
  go_upto_region 8 with(fail);refine mv 13 (by kernel_rfl) (by kernel_rfl) (fun wy hgy=>?_);obtain⟨gi,ci,x8,xl,xf,⟨v0,xa⟩,a0⟩:=(ab.out.fO hgy).arg (j:=jn) (by rw[HNV.out];omega);rw[HNV.out] at x8;have HX:=fE (a0 nv a2)
  have aw:gY (wy.setCell ⟨gi,jn*7+1,V⟩ (F I (nv:Int))) go no fo:=by
   obtain⟨_,_,h5,_⟩:=HX.out;exact(ah.fO hgy).fU h5 an.2
  clear a0;simp only[Mm,MN,Mr,Mt]
  repeat still_step
  refine M6 ?_;have au:=aw.qE a1 a9;exact su
 ·have ar:=aj.qE a1 a8
  have au:=ah.qF a1 a9;go_upto_region 11 with(fail);refine mv 13 (by kernel_rfl) (by kernel_rfl) (fun wy hgy=>?_);obtain⟨gi,ci,x8,xl,xf,⟨v0,xa⟩,a0⟩:=(ab.out.fO hgy).arg (j:=jn) (by rw[HNV.out];omega);rw[HNV.out] at x8;have HX:=fE (a0 nv a2);clear a0;simp only[Mm,MN,Mr,Mt]
  repeat still_step
  refine M6 ?_;exact su
end Go.Proofs.YtiihkapmggfjkaaGreat
