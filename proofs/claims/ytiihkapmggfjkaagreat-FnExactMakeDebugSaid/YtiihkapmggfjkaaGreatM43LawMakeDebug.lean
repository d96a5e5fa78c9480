/-
  PART.
-/
import Derived.Test.YtiihkapmggfjkaaGreatM29LawMakeDebug
import Derived.Test.YtiihkapmggfjkaaGreatM42LawMakeDebug
set_option linter.unusedVariables false
set_option linter.unusedSimpArgs false
set_option maxRecDepth 100000
set_option maxHeartbeats 8000000
namespace Go.Proofs.YtiihkapmggfjkaaGreat
open Value renaming slice->J,int->F,bool->X
open IntKind renaming i64->I,wrap->Ll
open Option renaming none->V,some->H
open Obj renaming cells->C
open Bool renaming false->U,true->M
open Go renaming World->N,results->Ly,Value->LA,Calls->LR,Addr->Mh,yielded->NA
open World renaming cell?->Lg,frozen?->LD
open List renaming length_singleton->Mj,length_nil->Mk,nil_append->Mw
open RowKit renaming intOf->Ml
open Region renaming wanted->MI,ready->MK,Mode->Nz,noSelect->ND,free->Oq
open Tryz
open Go.RowKit
variable {A:K Mh}{W w:N}{b:gC}{c f:Nat}{image:Int}{p:Q fG}
theorem Bb {P:ig}(hR:kX P):∀ d:Nat,wN P d
 | 0=>zns hR (GF hR.env)
 | d+1=>zns hR (GD hR (Bb hR d))
theorem Io {g i j:Nat} {v u:LA} (hc:Lg W ⟨g,i,V⟩=H v)(hn:i≠j):(W.setCell ⟨g,j,V⟩ u).cell? ⟨g,i,V⟩=H v:=by
 have h:(⟨g,i,V⟩:Mh)≠⟨g,j,V⟩:=fun e=>hn (by injection e);simpa[go_sem,h] using hc
theorem iD.up {P:ig} {m:fW} {rows:Q (Q LA)} {W':N} {Ai As:K Mh} {ci cs:Nat} {Si Ss:Q Nat} (h:iD P m rows W Ai ci Si As cs Ss)(hg:fF W W'):iD P m rows W' Ai ci Si As cs Ss:=
 ⟨zj h.box hg,h.its.fO hg,h.mu.fO hg,h.kZ,h.gn,h.fO.trans hg,h.low⟩
theorem vy {g:Prop} (f:g:=by
  rw[HPG.out,hst2.out] at hN8
  generalize (w7.setCell _ _)=w8 at hN8 |-
  obtain⟨L8,hS8,_,_⟩:=hN8
  clear q9 qf ql hN7 hS7
  have hcall:=Bb hR 3 ⟨V,0,[],A3,c3,S3⟩ (lE p b f words i) [] (lg p i) w8 L8 [] i e hS8 rfl (by simp) (by rw[HPE.out];exact HS.out) rfl rfl rfl (by rw[HPE.out];exact HM.out) (by simp[lE,zv,fW.fZ]) rfl (by rw[HPE.out];exact HE.out) (by show 0<=words;omega) (by show words<=iP 4;unfold iP;omega)
  rw[HPG.out] at hcall
  go_upto_region 10 with(first | (go_at_call 222;(with_reducible refine hcall.mono ?_);rintro e9 w9 ⟨rfl,hN9⟩))
  obtain⟨L9,⟨Av9,cv9,Sv9,Lm9,hB9,_⟩,_,_⟩:=hN9
  obtain⟨Ai,ci,Si,As,cs,Ss,hM9,_⟩:=hB9.st
  have hbx9:=hM9.box
  rw[HPG.out] at hbx9
  obtain⟨q0,q1,q2,q3,q4,q5,q6,q7,q8,q9,q10,q11,q12,qf,ql⟩:=mC hbx9
  have HCC:Hid (kH p b f words=((zH P.E (3+1) ([]++[(lg p i).f]) (lg p i) (lE p b f words i)).1.items,(zH P.E (3+1) ([]++[(lg p i).f]) (lg p i) (lE p b f words i)).1.gK)):=fE (by rw[HC.out,HPE.out];rfl)
  generalize (zH P.E (3+1) ([]++[(lg p i).f]) (lg p i) (lE p b f words i)).1=MR at hM9 q7 q10 HCC
  have hgF:fF w w9:=hgw1.trans (by have h:=hM9.fO;rwa [HPY.out] at h)
  have hlowS:∀ b∈Si,w.heap.size<=b:=fun b hb=>by have h:=hM9.low.2.1 b hb;rw[HPY.out] at h;exact LO hgw1.size h
  go_quiet (fail)
  go_wp2_with(fail)
  exact Ln (v:=.tuple #[J Ai MR.items.length ci,F I MR.gK]) (by simp[Ly,results180,go_sem]) rfl (show ri (kH p b f words) w _ _ from by rw[HCC.out];exact⟨Ai,ci,Si,rfl,hM9.its.fO gF,hlowS,hgF.trans gF⟩)):g:=f
theorem zk7 {words:Int} (hx:(zM.sl 87).R w w.heap.size [J A p.length c] p)(hl:∀ x∈p,x.fP.length<=1099511627776/\x.Expr.length<=1099511627776)(hp:j9 p)(hb:jG b=M)(hf:f<(zk p).length)(hw:0<=words/\words<=100) :
  LR prog 180 #[J A p.length c,F I f,.agg #[F I b.Frames,F I b.Inline,X b.Fold,X b.Split],F I words] w (ri (kH p b f words) w):=by
 have a9:=hb;unfold jG at a9;rw[LC] at a9;have ay:=zX.1 a9.1;have bm:=zX.1 a9.2;obtain⟨g,hg⟩:∃ g,(zk p)[f]?=H g:=⟨_,Lo hf⟩
 obtain⟨hE,hS,hM,i,e,x,rfl,af,b8,he,aR,aY,bk⟩:=Dc hp a9.2 hg hw;have aX:=(Lh.1 af).1;have br:=hp.len;have bo:=hp.ki;have aA:p.length<=1099511627776:=by omega
 have HC:=fE (xH (b:=b) (words:=words) hg);have bn:(f:Int)<((zk p).length:Int):=by omega
 have bq:(i:Int)<(p.length:Int):=by omega
 have aV:(bits .and I (b.Frames / 2 ^ f) 1 == 1)=kB b f:=Cl ay.1 ay.2 f;go_enter func180,ntmps180;go_upto_region 2 with(first | (go_at_call 91;(with_reducible refine(zcA (Ty.up _ hx gF) aA).mono ?_);rintro e9 w1 ⟨A1,c1,S1,rfl,aN,bj,az⟩;obtain⟨gf,of,y1,aM,ao,bu,_⟩:=lR aN.read hf));obtain rfl:y1=(i:Int):=by rw[hg] at ao;injection ao with h;exact h.symm
 subst aM;obtain⟨gp,op,x',aI,aK,bb,be,rfl,bp,a6,x0,x1,x2,x3,_⟩:=jb hx aX;obtain rfl:x=x':=by rw[af] at a6;injection a6
 have eb:w1.heap[w.heap.size]?=H (C #[F I b.Frames,F I b.Inline,X b.Fold,X b.Split] 35 (0,0)):=zj (Lp w _) az;have hgw1:fF w w1:=fF.trans (b:=_) gF az;have x2:=za hgw1 x2;obtain⟨gb,a5⟩:∃ g,w.heap.size=g:=⟨_,rfl⟩
 rw[a5] at eb |-;have bc:=fE a5;have bd:=fE af;have HG:=fE hg;clear a5 ao af a6 hg x0 x1 x3;obtain⟨b0,b1,b2,b3,bf,bl⟩:=jq eb;go_cut [11] from 17 to 33 (fun v wx=>∃ g,v=.pointer (H ⟨g,0,V⟩)/\fF w1 wx/\wx.heap[g]?=H (C #[J (H ⟨gp,op,V⟩) p.length c,F I b.Frames,F I b.Inline,X b.Fold,X b.Split,X (kB b f),F I words,F I 0,F I (zU p (i:Int)).length,F I 0,J V 0 0,J V 0 0,X U] 242 (0,0))/\w1.heap.size<=g)
 case first=>
  go_region_held3 (fun w'=>Lg w' ⟨gb,0,V⟩=H (F I b.Frames)/\Lg w' ⟨gb,1,V⟩=H (F I b.Inline)/\Lg w' ⟨gb,2,V⟩=H (X b.Fold)/\Lg w' ⟨gb,3,V⟩=H (X b.Split)/\Lg w' ⟨gp,op+i*4+2,V⟩=H (J aI x.fP.length aK)) ((repeat' apply Ls) <;> (first | ((repeat (first | assumption | with_reducible refine zC ?_ _ _ | with_reducible refine zo ?_ _ | with_reducible refine zb ?_));done) | (simp[go_sem];done))) (fail)
  all_goals go_wp2_with(fail)
  all_goals go_meet
  all_goals exact⟨_,rfl,gF,zj (Lp w1 _) gF,Lz _⟩
 case rest=>
  obtain⟨g,rfl,ae,ac,b4⟩:=hcut;clear aV x2;obtain⟨P,hP⟩:∃ P:ig,P=⟨mE p b f words i,b,H ⟨gp,op,V⟩,c,g,w1⟩:=⟨_,rfl⟩
  have hR:kX P:=by rw[hP];exact⟨Ty.up _ hx hgw1,hl,hE⟩
  have aq:iD P ⟨[],0,0,U⟩ [] wc V 0 [] V 0 []:=by rw[hP];exact⟨ac,Has.nil _ _ _,Has.nil _ _ _,(fun b hb=>by cases hb),⟨by simp,by simp⟩,ae,⟨b4,(fun b hb=>by cases hb),(fun b hb=>by cases hb)⟩⟩
  have av:P.g=g:=by rw[hP]
  have au:P.Y=w1:=by rw[hP]
  obtain⟨z0,z1,z2,z3,z4,z5,z6,z7,z8,z9,aF,aG,aH,zf,zl⟩:=mC ac;have HP:=fE hP;have HPG:=fE av;have HPY:=fE au;have aJ:=fE aY;clear hP av au;go_upto_region 4 with(first | (go_at_call 176;(with_reducible refine(zg8 (Ty.up _ hx ((hgw1.trans ae).trans gF)) aA hl).mono ?_);rintro e9 w4 ⟨A3,c3,S3,rfl,ah,aw,ak⟩;have aT:=zj ac ak;obtain⟨z0,z1,z2,z3,z4,z5,z6,z7,z8,z9,aF,aG,aH,zf,zl⟩:=mC aT));have an:P.g<w4.heap.size:=by rw[HPG.out];exact zl
  obtain⟨gs,am⟩:∃ gs,w4.heap.size=gs:=⟨_,rfl⟩
  have a8:Has ((jK 6).sl 244) (w4.alloc (C #[F I (i:Int),J V 0 0,J A3 (zq p i).length c3,F I 0,X M,J V 0 0] 244)) [J (H ⟨w4.heap.size,0,V⟩) [[F I (i:Int),J V 0 0,J A3 (zq p i).length c3,F I 0,X M,J V 0 0]].length 1] [[F I (i:Int),J V 0 0,J A3 (zq p i).length c3,F I 0,X M,J V 0 0]] [w4.heap.size]:=
   ⟨qq (xs:=[[F I (i:Int),J V 0 0,J A3 (zq p i).length c3,F I 0,X M,J V 0 0]]) (Lp w4 _) ⟨[F I (i:Int),J V 0 0,J A3 (zq p i).length c3,F I 0,X M,J V 0 0],[],[],[],by simp,rfl,⟨rfl,rfl,by intro u hu;simp only[LU,MX,Ox] at hu;rcases hu with rfl | rfl | rfl | rfl | rfl | rfl <;> rfl,rfl⟩,rfl,rfl⟩ (by simp),by simp⟩
  have a7:=(aq.up ak).scopes (W':=w4.alloc _) (((fF.refl w4).alloc _).only _) a8 (fun b hb=>.inr (by simp only[Lr] at hb;omega));rw[EY _ _ _ _ an,HPG.out] at a7
  have a1:((w4.setCell ⟨g,11,V⟩ (J (H ⟨w4.heap.size,0,V⟩) 1 1)).alloc (C #[F I (i:Int),J V 0 0,J A3 (zq p i).length c3,F I 0,X M,J V 0 0] 244)).heap[w4.heap.size]?=H (C #[F I (i:Int),J V 0 0,J A3 (zq p i).length c3,F I 0,X M,J V 0 0] 244 (0,0)):=by
   have h:=Lp (w4.setCell ⟨g,11,V⟩ (J (H ⟨w4.heap.size,0,V⟩) 1 1)) (C #[F I (i:Int),J V 0 0,J A3 (zq p i).length c3,F I 0,X M,J V 0 0] 244);have hz:(w4.setCell ⟨g,11,V⟩ (J (H ⟨w4.heap.size,0,V⟩) 1 1)).heap.size=w4.heap.size:=by simp
   rwa [hz] at h
  rw[Mj] at a7;rw[am] at a7 a1 |-;have ag:=fE am;clear am a8;generalize ((w4.setCell _ _).alloc _)=w5 at a7 a1 |-;obtain⟨ai,ar⟩:=a7;have a4:P.g∉S3:=fun hm=>by have h:=aw _ hm;rw[HPG.out] at h;omega
  have aa:gs∉S3:=fun hm=>by have h:=ah.lt _ hm;have h2:=ag.out;omega
  have b5:∀ b∈S3,w.heap.size<=b:=fun b hb=>LO (hgw1.trans ae).size (aw b hb);have aO:=ah.fU ar (fun b hb hm=>by simp at hm;rw[HPG.out] at a4;exact a4 (hm ▸ hb))
  have ax:mH P ⟨V,0,[],A3,c3,S3⟩ ⟨[],0,0,U⟩ [] (lg p i) w5 (P.g::([]++[gs])++[]):=
   ⟨V,0,[],P.g::([]++[gs]),⟨⟨V,0,[],H ⟨gs,0,V⟩,1,[gs],ai,rfl⟩,Has.nil _ _ _,aO,Has.nil _ _ _,(fun b hb=>by cases hb),(fun b hb=>⟨fun hm=>by
    simp only[Mw,LU,MX,Ox] at hm;rcases hm with h | h
    ·exact a4 (h ▸ hb)
    ·exact aa (h ▸ hb),by simp⟩),(fun b hb=>by cases hb),(fun b hb=>by cases hb)⟩,rfl⟩
  have bi:∀ b∈(P.g::([]++[gs])++[]),w.heap.size<=b:=fun b hb=>by
   have h1:=(hgw1.trans ae).size;have h2:=ak.size;have h3:=ag.out;have h4:=hgw1.size;simp only[Mw,MC,LU,MX,Ox] at hb;rcases hb with h | h
   ·rw[h,HPG.out];omega
   ·omega
  have a2:=ai.box;rw[HPG.out] at a2;obtain⟨y0,y1,y2,y3,y4,y5,y6,y7,y8,y9,b9,aE,ba,yf,yl⟩:=mC a2;obtain⟨r0,r1,r2,r3,r4,r5,rf,rl⟩:=l8 a1;have aC:P.E.args=((zU p i).length:Int):=by rw[HP.out];rfl
  have aD:P.E.gm=kB b f:=by rw[HP.out];rfl
  rw[aC] at y8;rw[aD] at y5;rw[Mj] at aE;have al:gs≠g:=fun e=>by have h:=ag.out;omega
  have aS:(zU p (i:Int)).length<=4:=by rw[<-b8];exact aR
  have aZ:=aJ.out;have bt:Ll I (((zq p i).length:Int)-((zU p i).length:Int))=((zq p i).length:Int)-((zU p i).length:Int):=iw;have HPE:=fE (show P.E=mE p b f words i by rw[HP.out]);clear aC aD z0 z1 z2 z3 z4 z5 z6 z7 z8 z9 aF aG aH zf zl ac a1 ah ai ar aq a2;go_region_held3 (fun w'=>Lg w' ⟨g,11,V⟩=H (J (H ⟨gs,0,V⟩) 1 1)/\Lg w' ⟨g,8,V⟩=H (F I (zU p i).length)/\Lg w' ⟨gs,2,V⟩=H (J A3 (zq p i).length c3)) ((repeat' apply Ls) <;> ((repeat (first | with_reducible assumption | with_reducible refine zb ?_ | with_reducible refine Io ?_ (by decide) | with_reducible refine D0 ?_ al));done)) (fail)
  all_goals go_upto_region 5 with(fail)
  have aj:=((gA.refl ax).num (m':=⟨[],0,((zq p i).length:Int)-((zU p i).length:Int),U⟩) (i:=7) (v:=F I (((zq p i).length:Int)-((zU p i).length:Int))) rfl (fun _ _ _ _ _ _ _ _ _=>rfl)).fO ((fF.refl _).drew);rw[HPG.out] at aj;generalize ((w5.setCell _ _).drew)=w6 at aj |-;obtain⟨L6,aQ,_,_⟩:=aj;obtain⟨Av,cv,Sv,Lm,ab,aP⟩:=aQ;obtain⟨q0,q1,q2,q5,q6,q7,q8,q9,q12,qf,ql⟩:=ab.st.iG;rw[HPG.out] at q5 ql;rw[HPE.out] at q5;clear y0 y1 y2 y3 y4 y5 y6 y7 y8 y9 b9 aE ba yf yl r0 r1 r2 r3 r4 r5 rf rl q0 q1 q2 q6 q7 q8 q9 q12 qf ax;have b7:fV words:=⟨by omega,by omega⟩
  have aW:fV (i:Int):=⟨by omega,by omega⟩
  have bg:fV 13:=⟨by omega,by omega⟩
  have bh:fV 15:=⟨by omega,by omega⟩
  have aL:fV 0:=⟨by omega,by omega⟩
  have b6:(zF.sl 3).R w6 w6.heap.size [J V ([]:Q Int).length 0] ([]:Q Int):=(Has.nil zF 3 w6).read;have HM:=fE hM;have HS:=fE hS;have HE:=fE he;clear hM hS he;obtain⟨fb,a3⟩:∃ fb,kB b f=fb:=⟨_,rfl⟩
  have ap:=fE a3;have aB:(mE p b f words i).gm=fb:=a3;rw[aB] at q5;clear a3 aB
  have bs:Hid (zv P.E ⟨[],0,((zq p i).length:Int)-((zU p i).length:Int),U⟩ (if fb=M then 13 else 15) words i []=(lE p b f words i).fZ 0):=fE (by
   rw[HPE.out,<-ap.out]
   rfl)
  have hst2:Hid ((zv P.E ⟨[],0,((zq p i).length:Int)-((zU p i).length:Int),U⟩ (if fb=M then 13 else 15) words i []).fZ words=lE p b f words i):=fE (by
   rw[HPE.out,<-ap.out]
   rfl)
  obtain⟨code,a0⟩:∃ code:Int,(if fb=M then 13 else 15)=code:=⟨_,rfl⟩
  rw[a0] at hst2;have aU:fV code:=by rw[<-a0];split <;> exact⟨by omega,by omega⟩
  have ad:=zek (code:=code) (arg:=words) (line:=(i:Int)) (chain:=[]) (Ac:=V) (cc:=0) ab.st b6 (by simp) (by simp) aU b7 aW aL;rw[HPG.out] at ad;simp only[Mk] at ad;cases fb with
  | true=>
   obtain rfl:code=13:=a0.symm;go_upto_region 8 with(first | (go_at_call 221;(with_reducible refine ad.mono ?_);rintro e9 w7 ⟨rfl,hN7⟩));obtain⟨L7,hS7,_,_⟩:=ab.next hN7;obtain⟨q0,q1,q2,q5,q6,q7,q8,q9,q12,qf,ql⟩:=(show jk P _ _ w7 _ from(M9 (M9 (M9 (M9 hS7)))).1.st).iG;rw[HPG.out] at q9 qf ql;clear q0 q1 q2 q5 q6 q7 q8 q12;go_upto_region 9 with(fail);have hN8:=(gA.refl hS7).num (m':=(zv P.E ⟨[],0,((zq p i).length:Int)-((zU p i).length:Int),U⟩ 13 words i []).fZ words) (i:=9) (v:=F I words) rfl (fun _ _ _ _ _ _ _ _ _=>rfl);exact vy
  | false=>
   obtain rfl:code=15:=a0.symm;go_upto_region 8 with(first | (go_at_call 221;(with_reducible refine ad.mono ?_);rintro e9 w7 ⟨rfl,hN7⟩));obtain⟨L7,hS7,_,_⟩:=ab.next hN7;obtain⟨q0,q1,q2,q5,q6,q7,q8,q9,q12,qf,ql⟩:=(show jk P _ _ w7 _ from(M9 (M9 (M9 (M9 hS7)))).1.st).iG;rw[HPG.out] at q9 qf ql;clear q0 q1 q2 q5 q6 q7 q8 q12;go_upto_region 9 with(fail);have hN8:=(gA.refl hS7).num (m':=(zv P.E ⟨[],0,((zq p i).length:Int)-((zU p i).length:Int),U⟩ 15 words i []).fZ words) (i:=9) (v:=F I words) rfl (fun _ _ _ _ _ _ _ _ _=>rfl);exact vy
theorem rL {g:Prop} (f:g:=by
  rintro e w6 ⟨A6,c6,S6,rfl,hH6,hS6,hg6⟩
  go_wp2_with(fail)
  exact Ln (v:=J A6 R2.1.length c6) (by simp[Ly,results97,go_sem]) rfl (show ve _ w _ _ from by rw[HC.out];exact⟨A6,c6,S6,rfl,hH6.fO gF,fun b hb=>LO (hgT.trans ((fF.trans (b:=_) gF hg5).trans gF)).size (hS6 b hb),(hgT.trans (fF.trans (b:=_) gF hg5)).trans ((fF.trans (b:=_) gF hg6).trans gF)⟩)):g:=f
theorem zr3 (hx:(zM.sl 87).R w w.heap.size [J A p.length c] p)(hs:∀ x∈p,x.fP.length<=1099511627776/\x.Expr.length<=1099511627776)(hp:zs p=M)(hb:jG b=M)(hf:f<(zk p).length) :
  LR prog 97 #[J A p.length c,F I f,.agg #[F I b.Frames,F I b.Inline,X b.Fold,X b.Split]] w (ve (jY p b f) w):=by
 have hF:=nt hp;have al:=hF.len;have ap:=hF.ki;have hl:p.length<=1099511627776:=by omega
 have aj:gW b.Inline 0 3=M:=by unfold jG at hb;rw[LC] at hb;exact hb.2
 have ao:¬ ((f:Int)<0):=by omega
 have an:¬ ((f:Int)≥((zk p).length:Int)):=by omega
 have ak:¬ (((zk p).length:Int)<=(f:Int)):=by omega
 have HP:=fE hp;have HB:=fE hb
 -- what compiling comes to at a program
 have a6:∀(q:Q fG) (hq:j9 q) (a5:f<(zk q).length) (ab:∀ x∈q,x.fP.length<=1099511627776/\x.Expr.length<=1099511627776),∃ R1 R2,kH q b f 0=R1/\kH q b f R1.2=R2/\
   (∀(W:N) (A:K Mh) (c:Nat),(zM.sl 87).R W W.heap.size [J A q.length c] q->LR prog 180 #[J A q.length c,F I f,.agg #[F I b.Frames,F I b.Inline,X b.Fold,X b.Split],F I 0] W (ri R1 W))/\
   (∀(W:N) (A:K Mh) (c:Nat),(zM.sl 87).R W W.heap.size [J A q.length c] q->LR prog 180 #[J A q.length c,F I f,.agg #[F I b.Frames,F I b.Inline,X b.Fold,X b.Split],F I R1.2] W (ri R2 W)):=by
  intro q hq a5 ab;obtain⟨_,_,_,h4,h5⟩:=vI (words:=0) hq aj a5 ⟨by omega,by omega⟩;exact⟨_,_,rfl,rfl,fun W A c h=>zk7 h ab hq hb a5 ⟨by omega,by omega⟩,fun W A c h=>zk7 h ab hq hb a5 ⟨h4,by omega⟩⟩
 obtain⟨bF,bI,ae,bS⟩:=b;cases ae with
 | false=>
  obtain⟨R1,R2,e1,e2,c1,c2⟩:=a6 p hF.c hf hs;have HC:Hid (jY p ⟨bF,bI,U,bS⟩ f=R2.1):=fE (by unfold jY;simp only;rw[Lt (by simp),e1,e2]);have C1:=fE c1;have C2:=fE c2;have BO:=fun w=>wh (b:=⟨bF,bI,U,bS⟩) (w:=w);have a7:=fE BO;clear e1 e2 c1 c2 a6 hp hb BO;go_enter func97,ntmps97;go_wp2_with(first | (go_at_call 31;(with_reducible refine(za8 (Ty.up _ hx gF) hl hs).mono ?_);rw[HP.out];rintro e w1 ⟨rfl,a2⟩;obtain⟨b0,b1,b2,b3,bf,bl⟩:=jq (zj (Lp w (C #[F I bF,F I bI,X U,X bS] 35)) a2)) | (go_at_call 32;(with_reducible refine(a7.out _).mono ?_);rw[HB.out];rintro e w2 ⟨rfl,a0⟩;have hgT:fF w w2:=(fF.trans (b:=_) gF a2).trans (fF.trans (b:=_) gF a0);have b0:=za a0 b0;have b1:=za a0 b1;have b2:=za a0 b2;have b3:=za a0 b3) | (go_at_call 91;(with_reducible refine(zcA (Ty.up _ hx (hgT.trans gF)) hl).mono ?_);rintro e w3 ⟨A3,c3,S3,rfl,af,ah,a1⟩;have hgT:=hgT.trans (fF.trans (b:=_) gF a1);have b0:=za a1 b0;have b1:=za a1 b1;have b2:=za a1 b2;have b3:=za a1 b3));refine(C1.out _ _ _ (Ty.up _ hx (hgT.trans gF))).mono ?_;rintro e w5 ⟨A5,c5,S5,rfl,ag,ai,hg5⟩;have b0:=za hg5 b0;have b1:=za hg5 b1;have b2:=za hg5 b2;have b3:=za hg5 b3;go_wp2_with(fail);refine(C2.out _ _ _ (Ty.up _ (Ty.up _ hx (hgT.trans gF)) (fF.trans (b:=_) gF hg5))).mono ?_;exact rL
 | true=>
  have a4:mh p=p.map zI:=by unfold mh;rw[Lu hp]
  have a8:=hF.fold;have a9:f<(zk (p.map zI)).length:=by rw[tS];exact hf
  have aa:=Cw hF;generalize p.map zI=q at a4 a8 a9 aa;obtain⟨R1,R2,e1,e2,c1,c2⟩:=a6 q a8 a9 aa;have HC:Hid (jY p ⟨bF,bI,M,bS⟩ f=R2.1):=fE (by unfold jY;simp only[Nx];rw[a4,e1,e2]);have ad:=fE a4;clear a4 a8 a9 aa;have C1:=fE c1;have C2:=fE c2;have BO:=fun w=>wh (b:=⟨bF,bI,M,bS⟩) (w:=w);have a7:=fE BO;clear e1 e2 c1 c2 a6 hp hb BO;go_enter func97,ntmps97;go_wp2_with(first | (go_at_call 31;(with_reducible refine(za8 (Ty.up _ hx gF) hl hs).mono ?_);rw[HP.out];rintro e w1 ⟨rfl,a2⟩;obtain⟨b0,b1,b2,b3,bf,bl⟩:=jq (zj (Lp w (C #[F I bF,F I bI,X M,X bS] 35)) a2)) | (go_at_call 32;(with_reducible refine(a7.out _).mono ?_);rw[HB.out];rintro e w2 ⟨rfl,a0⟩;have hgT:fF w w2:=(fF.trans (b:=_) gF a2).trans (fF.trans (b:=_) gF a0);have b0:=za a0 b0;have b1:=za a0 b1;have b2:=za a0 b2;have b3:=za a0 b3) | (go_at_call 91;(with_reducible refine(zcA (Ty.up _ hx (hgT.trans gF)) hl).mono ?_);rintro e w3 ⟨A3,c3,S3,rfl,af,ah,a1⟩;have hgT:=hgT.trans (fF.trans (b:=_) gF a1);have b0:=za a1 b0;have b1:=za a1 b1;have b2:=za a1 b2;have b3:=za a1 b3) | (go_at_call 179;(with_reducible refine(zoq (Ty.up _ hx (hgT.trans gF)) hl hs).mono ?_);rw[ad.out];rintro e w4 ⟨A4,c4,S4,rfl,ac,am,a3⟩;have hgT:=hgT.trans (fF.trans (b:=_) gF a3);have b0:=za a3 b0;have b1:=za a3 b1;have b2:=za a3 b2;have b3:=za a3 b3));refine(C1.out _ _ _ (Ty.up _ ac.read gF)).mono ?_;rintro e w5 ⟨A5,c5,S5,rfl,ag,ai,hg5⟩;have b0:=za hg5 b0;have b1:=za hg5 b1;have b2:=za hg5 b2;have b3:=za hg5 b3;go_wp2_with(fail);refine(C2.out _ _ _ (Ty.up _ (Ty.up _ ac.read gF) (fF.trans (b:=_) gF hg5))).mono ?_;exact rL
theorem zpX (hf:f<=1000):LR prog 96 #[.agg #[F I b.Frames,F I b.Inline,X b.Fold,X b.Split],F I f,F I image] w fun e w'=>e=.returned (X (me b f image))/\fF w w':=by
 obtain⟨bF,bI,a0,bS⟩:=b;have hm:=DW f (by omega);cases bS with
 | true=>
  have HI:Hid (me ⟨bF,bI,a0,M⟩ f image=((f:Int) % 2 == image)):=fE (by unfold me;simp only[Nx];cases h:decide ((f:Int) % 2=image) with
   | true=>rw[NR] at h;rw[h];simp
   | false=>rw[Me] at h;exact(Lk.2 h).symm)
  go_enter func96,ntmps96;go_wp2_with(fail);go_ret;exact⟨zy HI.out.symm,gG⟩
 | false=>
  have HI:Hid (me ⟨bF,bI,a0,U⟩ f image=(image == 0)):=fE (by unfold me;simp only[OH,if_false];cases h:decide (image=0) with
   | true=>rw[NR] at h;rw[h];rfl
   | false=>rw[Me] at h;exact(Lk.2 h).symm)
  go_enter func96,ntmps96;go_wp2_with(fail);go_ret;exact⟨zy HI.out.symm,gG⟩
theorem vt {g:Prop} (f:g:=by
  clear hj
  go_upto_region 22 with(fail)
  refine kC (fun w'=>Lg w' ⟨g14,1,V⟩=H (F I (ag:Int))/\Lg w' ⟨gt,ag,V⟩=H (F I sa)/\Lg w' ⟨gt,k+1,V⟩=H (F I s1)) 14 (by kernel_rfl) (Ls (zb o1) (Ls (zb ta) (zb t1))) (fun hH=>?_)
  have hdr:fF Y Y.drew:=(fF.refl _).drew
  clear o1 ta t1
  generalize Y.drew=wx at hdr hH |-
  obtain⟨o1,ta,t1⟩:=id hH
  have ofx:∀ j,LD wx ⟨g14,j,V⟩=U:=fun j=>((hdr.only []).frozen ol (by simp) j).trans (of j)
  have olx:g14<wx.heap.size:=Li ol hdr.size
  refine .tk 0 [14] hH ?_
  refine .tk 1 [14] hH ?_
  refine .tk 2 [14] hH ?_
  refine .tk 3 [14] hH ?_
  refine .tk 4 [14] hH ?_
  refine .tk 5 [14] hH ?_
  refine .tk 6 [14] hH ?_
  refine .tk 7 [14] hH ?_
  refine .tk 8 [14] hH ?_
  refine .tk 9 [14] hH ?_
  refine .tk 10 [14] hH ?_
  refine .tk 11 [14] hH ?_
  refine .tk 12 [13,14] hH ?_
  refine .tk 13 [14] hH ?_
  refine fX.last (by kernel_rfl) rfl (by kernel_rfl) (fun Le hK=>?_)
  go_simp
  refine hK.out _ _ ?_
  clear hK
  try simp only[lay]
  go_upto_region 23 with(fail)
  have eb2:=(jo (i:=1) (v:=F I (sa-s1)) (cur':=#[F I x.Op.Code,F I (sa-s1),F I x.fN,X x.Start,J A20 x.fH.length c20,F I x.fK,X x.fI]) (zj eb hdr) rfl)
  have hgY:fF wr (wx.setCell ⟨g14,1,V⟩ (F I (sa-s1))):=(hgYa.trans hdr).setRow (p:=⟨g14,1,V⟩) (N4 HG14.out) _
  generalize (wx.setCell _ _)=Y2 at eb2 hgY |-
  obtain⟨o0,o1,o2,o3,o4,o5,o6,of,ol⟩:=mr eb2
  have tk:=za hgY tk
  have hgtY:gt<Y2.heap.size:=Li hgtw hgY.size
  have hHY:=hR7.out.fO hgY
  have hPY:=hPR.out.fO hgY
  go_region_held3 (fun w'=>Lg w' ⟨g14,0,V⟩=H (F I x.Op.Code)/\Lg w' ⟨g14,1,V⟩=H (F I (sa-s1))/\Lg w' ⟨g14,2,V⟩=H (F I x.fN)/\Lg w' ⟨g14,3,V⟩=H (X x.Start)/\Lg w' ⟨g14,4,V⟩=H (J A20 x.fH.length c20)/\Lg w' ⟨g14,5,V⟩=H (F I x.fK)/\Lg w' ⟨g14,6,V⟩=H (X x.fI)/\Lg w' ⟨gt,k,V⟩=H (F I sk)) ((repeat' apply Ls) <;> ((repeat (first | with_reducible assumption | with_reducible refine zC ?_ _ _ | with_reducible refine zo ?_ _ | with_reducible refine zb ?_ | with_reducible refine oL ?_ _));done)) (first | (refine zO (L:=rs.length+1) rfl (.tmp 104) (.tmp 111) vg (tt 8) (hHY.fO gF) (W1:=w) (B:=0) (ec:=[F I sk,F I x.Op.Code,F I (sa-s1),F I x.fN,X x.Start,J A20 x.fH.length c20,F I x.fK,X x.fI]) (y:=[F I sk,F I x.Op.Code,F I (sa-s1),F I x.fN,X x.Start,J A20 x.fH.length c20,F I x.fK,X x.fI]) ⟨rfl,rfl,by intro u hu;simp only[LU,MX,Ox] at hu;rcases hu with rfl | rfl | rfl | rfl | rfl | rfl | rfl | rfl <;> rfl⟩ rfl rfl rfl (by intro j u hu;simpa[go_sem] using hu) rfl (by omega) (by omega) ?_;intro A8 c8 W8 S8 hon hH8 hS8;have o0:=(hon.cell (g:=g14) (Li ol (fF.size gF)) hg14S _).trans (za gF o0);have o1:=(hon.cell (g:=g14) (Li ol (fF.size gF)) hg14S _).trans (za gF o1);have o2:=(hon.cell (g:=g14) (Li ol (fF.size gF)) hg14S _).trans (za gF o2);have o3:=(hon.cell (g:=g14) (Li ol (fF.size gF)) hg14S _).trans (za gF o3);have o4:=(hon.cell (g:=g14) (Li ol (fF.size gF)) hg14S _).trans (za gF o4);have o5:=(hon.cell (g:=g14) (Li ol (fF.size gF)) hg14S _).trans (za gF o5);have o6:=(hon.cell (g:=g14) (Li ol (fF.size gF)) hg14S _).trans (za gF o6);have tk:=(hon.cell (g:=gt) (Li hgtY (fF.size gF)) hgtS _).trans (za gF tk)))
  all_goals go_wp2_with(fail)
  all_goals go_roundw
  case measure=>exact gL
  case rel=>
   have hrow:l9 w.heap.size Y2 S7 [F I sk,F I x.Op.Code,F I (sa-s1),F I x.fN,X x.Start,J A20 x.fH.length c20,F I x.fK,X x.fI] (lf ST k x):=by
    rw[hPL.out]
    exact⟨A20,c20,Sc,rfl,Ty.jl _ hchO hgY,fun b hb=>hScS b hb,hskI,hxcI,hvI,hxlI,hxdI⟩
   exact⟨k+1,rs++[[F I sk,F I x.Op.Code,F I (sa-s1),F I x.fN,X x.Start,J A20 x.fH.length c20,F I x.fK,X x.fI]],acc++[lf ST k x],A8,c8,S8,by rw[Lj];rfl,by go_num,by omega,fE (xL hO7.out hS7.out (fF.trans hgY gF) hon),fE (yh hO7.out hS7.out (fF.trans hgY gF) hS8),fE (by rw[Lj];exact hH8),fE (gQ.push hPY hrow gF hon hS8),fE (by rw[<-hA4.out,HAT.out,LZ];rfl),by rw[Lj,Mj];omega⟩):g:=f
theorem rC {g:Prop} (f:g:=by
  go_enter func34,ntmps34
  go_wp2_with(first | (go_at_call 31;(with_reducible refine(za8 (Ty.up _ hx gF) hll hs).mono ?_);rw[HPB.out];rintro e w1 ⟨rfl,hg1⟩;obtain⟨b0,b1,b2,b3,bf,bl⟩:=jq (zj (Lp w (C #[F I bF,F I bI,X bFo,X bS] 35)) (fF.trans (b:=_) gF hg1))) | (go_at_call 32;(with_reducible refine(HBO.out _).mono ?_);rw[HBB.out];rintro e w2 ⟨rfl,hg2⟩) | (go_at_call 33;(with_reducible refine(lj _ _ _ _).mono ?_);rw[HIB.out];rintro e w3 ⟨rfl,rfl⟩))
  exact Ln (v:=J (H ⟨w.heap.size+1,0,V⟩) 0 0) (by simp[Ly,results34,go_sem]) rfl (show py _ w _ _ from by rw[HE.out];exact⟨_,0,[],[w.heap.size+1],rfl,Has.emp (jK 8) (g:=w.heap.size+1) (zj (EOUT.out) (hg1.trans hg2)),gQ.nil _ _ _,fun b hb=>by simp only[Lr] at hb;omega,(fF.trans (b:=_) gF (hg1.trans hg2))⟩)):g:=f
theorem zkj (hx:(zM.sl 87).R w w.heap.size [J A p.length c] p)(hll:p.length<=1099511627776)(hs:∀ x∈p,x.fP.length<=1099511627776/\x.Expr.length<=1099511627776) :
  LR prog 34 #[J A p.length c,.agg #[F I b.Frames,F I b.Inline,X b.Fold,X b.Split],F I image] w (py (zK p b image) w):=by
 obtain⟨bF,bI,bFo,bS⟩:=b;have BO:=fun w=>wh (b:=⟨bF,bI,bFo,bS⟩) (w:=w);have HBO:=fE BO;clear BO;have EOUT:Hid (((w.alloc (C #[F I bF,F I bI,X bFo,X bS] 35)).alloc (C #[] 133)).heap[w.heap.size+1]?=H (C #[] 133 (0,0))):=fE (by have h:=Lp (w.alloc (C #[F I bF,F I bI,X bFo,X bS] 35)) (C #[] 133);rw[Mo] at h;exact h);rcases LH (zs p) with a6 | a6
 rotate_left
 ·have HE:Hid (zK p ⟨bF,bI,bFo,bS⟩ image = []):=fE (by unfold zK;rw[Lt (fun h=>by rw[a6] at h;cases h.1)])
  have HPB:=fE a6;have HBB:=fE (rfl:jG ⟨bF,bI,bFo,bS⟩=jG ⟨bF,bI,bFo,bS⟩);have HIB:=fE (rfl:gW image 0 1=gW image 0 1);clear a6;go_enter func34,ntmps34;go_wp2_with(first | (go_at_call 31;(with_reducible refine(za8 (Ty.up _ hx gF) hll hs).mono ?_);rw[HPB.out];rintro e w1 ⟨rfl,hg1⟩;obtain⟨b0,b1,b2,b3,bf,bl⟩:=jq (zj (Lp w (C #[F I bF,F I bI,X bFo,X bS] 35)) (fF.trans (b:=_) gF hg1))) | (go_at_call 32;(with_reducible refine(HBO.out _).mono ?_);rw[HBB.out];rintro e w2 ⟨rfl,hg2⟩) | (go_at_call 33;(with_reducible refine(lj _ _ _ _).mono ?_);rw[HIB.out];rintro e w3 ⟨rfl,rfl⟩));exact Ln (v:=J (H ⟨w.heap.size+1,0,V⟩) 0 0) (by simp[Ly,results34,go_sem]) rfl (show py _ w _ _ from by rw[HE.out];exact⟨_,0,[],[w.heap.size+1],rfl,Has.emp (jK 8) (g:=w.heap.size+1) (zj (EOUT.out) hg1),gQ.nil _ _ _,fun b hb=>by simp only[Lr] at hb;omega,(fF.trans (b:=_) gF hg1)⟩)
 rcases LH (jG ⟨bF,bI,bFo,bS⟩) with af | af
 rotate_left
 ·have HE:Hid (zK p ⟨bF,bI,bFo,bS⟩ image = []):=fE (by unfold zK;rw[Lt (fun h=>by rw[af] at h;cases h.2.1)])
  have HPB:=fE a6;have HBB:=fE af;have HIB:=fE (rfl:gW image 0 1=gW image 0 1);clear a6 af;exact rC
 rcases LH (gW image 0 1) with ad | ad
 rotate_left
 ·have HE:Hid (zK p ⟨bF,bI,bFo,bS⟩ image = []):=fE (by unfold zK;rw[Lt (fun h=>by rw[ad] at h;cases h.2.2)])
  have HPB:=fE a6;have HBB:=fE af;have HIB:=fE ad;clear a6 af ad;exact rC
 have HE:Hid (zK p ⟨bF,bI,bFo,bS⟩ image=l0 p ⟨bF,bI,bFo,bS⟩ image ((zk p).length-0) 0 0):=fE (by unfold zK;rw[Lu ⟨a6,af,ad⟩];rfl);have HPB:=fE a6;have HBB:=fE af;have HIB:=fE ad;have cp:=(nt a6).ki;clear a6 af ad;go_enter func34,ntmps34;go_wp2_with(first | (go_at_call 31;(with_reducible refine(za8 (Ty.up _ hx gF) hll hs).mono ?_);rw[HPB.out];rintro e w1 ⟨rfl,hg1⟩;obtain⟨b0,b1,b2,b3,bf,bl⟩:=jq (zj (Lp w (C #[F I bF,F I bI,X bFo,X bS] 35)) (fF.trans (b:=_) gF hg1))) | (go_at_call 32;(with_reducible refine(HBO.out _).mono ?_);rw[HBB.out];rintro e w2 ⟨rfl,hg2⟩) | (go_at_call 33;(with_reducible refine(lj _ _ _ _).mono ?_);rw[HIB.out];rintro e w3 ⟨rfl,rfl⟩));have bv:fF (w.alloc (C #[F I bF,F I bI,X bFo,X bS] 35)) w2:=(fF.trans (b:=_) gF hg1).trans hg2;have bH:=fE (zj (Lp w (C #[F I bF,F I bI,X bFo,X bS] 35)) bv);have bd:fF w w2:=fF.trans (b:=_) gF bv;have br:Has ((jK 8).sl 133) w2 [J (H ⟨w.heap.size+1,0,V⟩) 0 0] [] [w.heap.size+1]:=Has.emp (jK 8) (zj EOUT.out (hg1.trans hg2));have bJ:=fE br;clear br b0 b1 b2 b3 bf bl;go_loopw [7,8,9] (fun z7 z8 z9 wr=>∃(f:Nat) (a:Int) (rs:Q (Q LA)) (acc:Q fQ) (A7:K Mh) (c7:Nat) (S7:Q Nat),z7=J A7 rs.length c7/\z8=F I a/\z9=F I f/\f<=(zk p).length/\0<=a/\a<=12000*(f:Int)/\rs.length<=2400*f/\Hid (fF w wr)/\Hid (wr.heap[w.heap.size]?=H (C #[F I bF,F I bI,X bFo,X bS] 35 (0,0)))/\Hid (∀ b∈S7,w.heap.size<b)/\Hid (Has ((jK 8).sl 133) wr [J A7 rs.length c7] rs S7)/\Hid (gQ w.heap.size wr S7 rs acc)/\Hid (acc++l0 p ⟨bF,bI,bFo,bS⟩ image ((zk p).length-f) f a=zK p ⟨bF,bI,bFo,bS⟩ image)) (fun _ _ z9 _=>(zk p).length-(Ml z9).toNat)
 case atStart=>exact⟨0,0,[],[],_,0,_,rfl,rfl,rfl,Lv _,N2 _,by omega,Lv _,fE bd,bH,fE (fun b hb=>by simp only[Lr] at hb;omega),bJ,fE (gQ.nil _ _ _),fE HE.out.symm⟩
 case round=>
 obtain⟨f,a,aR,a7,aL,aO,ak,rfl,rfl,rfl,hf,bT,ck,c2,a8,ap,aA,aB,ar,b4⟩:=hrel;obtain⟨b0,b1,b2,b3,bf,bl⟩:=jq ap.out;by_cases hlt:f<(zk p).length
 ·have bW:(f:Int)<((zk p).length:Int):=by omega
  have cu:Ll I ((f:Int)+1)=(f:Int)+1:=iw;have bD:=fun w' (hg:fF wr w')=>zcA (Ty.up _ hx (a8.out.trans hg)) hll;obtain⟨ib,ad⟩:∃ ib,me ⟨bF,bI,bFo,bS⟩ f image=ib:=⟨_,rfl⟩
  have bn:=fun w'=>zpX (b:=⟨bF,bI,bFo,bS⟩) (f:=f) (image:=image) (w:=w') (by omega);have bk:=fE bn;have aN:=fE ad;clear bn ad;cases ib with
  | false=>
   have HAT:=fE (GC (p:=p) (a:=a) hlt aN.out);go_wp2_with(first | (go_at_call 91;(with_reducible refine(zcA (Ty.up _ hx (a8.out.trans gF)) hll).mono ?_);rintro e w5 ⟨A5,c5,S5,rfl,b6,b7,a2⟩;have b0:=za a2 b0;have b1:=za a2 b1;have b2:=za a2 b2;have b3:=za a2 b3) | (go_at_call 96;(with_reducible refine(bk.out _).mono ?_);rw[aN.out];rintro e w6 ⟨rfl,a5⟩));go_roundw;exact⟨f+1,a,aR,a7,aL,aO,ak,rfl,rfl,by go_num,by omega,bT,by omega,by omega,fE (a8.out.trans (a2.trans a5)),fE (zj ap.out (a2.trans a5)),aA,fE (aB.out.fO (a2.trans a5)),fE (ar.out.fO (a2.trans a5)),fE (by rw[<-b4.out,HAT.out])⟩;exact gL
  | true=>
   have au:=fE (Gh (p:=p) (a:=a) hlt aN.out);obtain⟨am,c0,c1⟩:=uC HPB.out HBB.out hlt;have aT:=fun(W:N) (h:(zM.sl 87).R W W.heap.size [J A p.length c] p)=>zr3 (w:=W) (A:=A) (c:=c) h hs HPB.out HBB.out hlt;generalize jY p ⟨bF,bI,bFo,bS⟩ f=its at au am c0 c1 aT;have bE:=fE aT;have aW:=fE am;clear aT am;go_wp2_with(first | (go_at_call 91;(with_reducible refine(zcA (Ty.up _ hx (a8.out.trans gF)) hll).mono ?_);rintro e w5 ⟨A5,c5,S5,rfl,b6,b7,a2⟩;have b0:=za a2 b0;have b1:=za a2 b1;have b2:=za a2 b2;have b3:=za a2 b3) | (go_at_call 96;(with_reducible refine(bk.out _).mono ?_);rw[aN.out];rintro e w6 ⟨rfl,a5⟩;have b0:=za a5 b0;have b1:=za a5 b1;have b2:=za a5 b2;have b3:=za a5 b3) | (go_at_call 97;(with_reducible refine(bE.out _ (Ty.up _ hx (a8.out.trans (a2.trans (a5.trans gF))))).mono ?_);rintro e w7 ⟨cg,aZ,bM,rfl,ay,aC,bu⟩));have aF:fF wr w7:=(a2.trans a5).trans (fF.trans (b:=_) gF bu);have aH:∀ b∈bM,wr.heap.size<=b:=fun b hb=>LO (a2.trans a5).size (aC b hb);have a3:=fE aF;have av:=fE ay;have ae:=fE aH;obtain⟨wz,bz⟩:∃ z,wr=z:=⟨_,rfl⟩
   rw[bz] at a8 ap aB ar a3 ae;clear b0 b1 b2 b3 bf bl a2 a5 bu b7 b6 ay aC aF aH bD bz;go_loopw [8,11,12] (fun z8 z11 z12 wr=>∃(k:Nat) (a1:Int) (st:Q Int) (aS:K Mh) (ax:Nat) (aY:Q Nat),z8=F I a1/\z11=J aS k ax/\z12=F I k/\k<=its.length/\a<=a1/\a1<=a+5*(k:Int)/\Hid (st.length=k)/\Hid (fF w7 wr)/\Hid (Has (zF.sl 3) wr [J aS k ax] st aY)/\Hid (∀ b∈aY,w7.heap.size<=b)/\Hid (st++jR (its.drop k) a1=jR its a)/\Hid (kF (its.drop k) a1=kF its a)) (fun _ _ z12 _=>its.length-(Ml z12).toNat)
   case atStart=>exact⟨0,a,[],_,0,[w7.heap.size],rfl,rfl,rfl,Lv _,N2 _,by omega,fE rfl,fE gF,fE (Has.emp zF (zj (Lp w7 _) gF)),fE (fun b hb=>by simp only[Lr] at hb;omega),fE rfl,fE rfl⟩
   case round=>
   obtain⟨k,a1,st,aS,ax,aY,rfl,rfl,rfl,hk,cm,cl,ca,aq,bp,aD,bt,bo⟩:=hrel;by_cases hkl:k<its.length
   ·have be:(k:Int)<(its.length:Int):=by omega
    have cb:Ll I ((k:Int)+1)=(k:Int)+1:=iw;obtain⟨gi,oi,x,A20,c20,rfl,an,aj,y0,_⟩:=AB av.out.read hkl;have y0:=za aq.out y0;have cq:=qU x.Op.Code;have ct:Ll I (a1+zA x.Op.Code)=a1+zA x.Op.Code:=iw;have b9:fV a1:=⟨by omega,by omega⟩
    have bL:=fE (C7 aj a1);have bG:=fE (Ke aj a1);clear aj;go_wp2_with(first | (at_builtin;refine zr (L:=k+1) rfl (.tmp 53) (.tmp 55) kJ zP (bp.out.fO gF) (W1:=w) (B:=0) (ec:=[F I a1]) (y:=a1) (vp _ _ b9) rfl rfl rfl (by intro j u hu;simpa[go_sem] using hu) rfl (by omega) (by omega) ?_;intro A8 c8 W8 S8 hon hH8 hS8;have y0:=(hon.cell (g:=gi) (Li an (fF.trans aq.out gF).size) (fun hm=>by have h:=aD.out gi hm;omega) _).trans (za gF y0)) | (go_at_call 98;(with_reducible refine(zkf _ _).mono ?_);rintro e w9 ⟨rfl,rfl⟩));go_roundw;exact⟨k+1,a1+zA x.Op.Code,st++[a1],A8,c8,S8,rfl,rfl,by go_num,by omega,by omega,by omega,fE (by rw[Lj,ca.out];rfl),fE (hon.fO (aq.out.trans gF) aD.out),fE hH8,fE (fun b hb=>(hS8 b hb).elim (aD.out b) (fun h=>LO (fF.size (fF.trans aq.out gF)) h)),fE (by rw[<-bt.out,bL.out,LZ];rfl),fE (by rw[<-bo.out,bG.out])⟩;exact gL
   obtain rfl:k=its.length:=by omega
   have be:¬ ((its.length:Int)<(its.length:Int)):=by omega
   have b9:fV a1:=⟨by omega,by omega⟩
   have aX:Hid (st++[a1]=jR its a):=fE (by rw[<-bt.out,LY];rfl);have aV:Hid (a1=kF its a):=fE (by rw[<-bo.out,LY];rfl);obtain⟨ST,a9⟩:∃ ST,jR its a=ST:=⟨_,rfl⟩
   have aw:Hid (ST.length=its.length+1):=fE (by rw[<-a9];exact yi _ _);have bm:Hid (∀ v∈ST,a<=v/\v<=a+5*(its.length:Int)):=fE (by rw[<-a9];exact yH _ _);have bK:Hid (jD its a=nJ ST its 0):=fE (by rw[<-a9];rfl);rw[a9] at aX;clear a9;go_wp2_with(first | (at_builtin;refine zr (L:=its.length+1) rfl (.tmp 66) (.tmp 68) kJ zP (bp.out.fO gF) (W1:=w) (B:=0) (ec:=[F I a1]) (y:=a1) (vp _ _ b9) rfl rfl rfl (by intro j u hu;simpa[go_sem] using hu) rfl (by omega) (by omega) ?_;intro A9 c9 w9 S9 aI az bs));have aE:fF w7 w9:=aI.fO (fF.trans aq.out gF) aD.out;have bR:(zF.sl 3).R w9 w9.heap.size [J A9 ST.length c9] ST:=by rw[aw.out,<-aX.out];exact az.read
   have bg:∀ b∈S9,w7.heap.size<=b:=fun b hb=>(bs b hb).elim (aD.out b) (fun h=>LO (fF.size (fF.trans aq.out gF)) h);rw[aX.out] at az;have aM:=fE aE;have ch:=fE az;have ci:=fE bg;have aG:=fE (av.out.fO aE);have bQ:=fE (aB.out.fO (a3.out.trans aE));have bP:=fE (ar.out.fO (a3.out.trans aE));obtain⟨gt,bN,al,ao,ab⟩:=DY az (by rw[aw.out];omega);subst bN;have aU:=fE ab;have bx:=bg gt al;clear az bg aI bs aE bR ab al;go_loopw [7,13] (fun z7 z13 wr=>∃(k:Nat) (rs:Q (Q LA)) (acc:Q fQ) (A7:K Mh) (c7:Nat) (S7:Q Nat),z7=J A7 rs.length c7/\z13=F I k/\k<=its.length/\Hid (fJ ak w9 wr)/\Hid (∀ b∈S7,b∈ak∨w9.heap.size<=b)/\Hid (Has ((jK 8).sl 133) wr [J A7 rs.length c7] rs S7)/\Hid (gQ w.heap.size wr S7 rs acc)/\Hid (acc++nJ ST (its.drop k) k=a7++jD its a)/\rs.length<=2400*f+k) (fun _ z13 _=>its.length-(Ml z13).toNat)
   case atStart=>exact⟨0,aR,a7,aL,aO,ak,rfl,rfl,Lv _,fE (fJ.refl _ _),fE (fun b hb=>.inl hb),bQ,bP,fE (by rw[bK.out];rfl),by omega⟩
   case round=>
   obtain⟨k,rs,acc,A7,c7,S7,rfl,rfl,hk,hO7,hS7,hR7,hPR,hA4,cr⟩:=hrel;by_cases hkl:k<its.length
   ·have be:(k:Int)<(its.length:Int):=by omega
    have cb:Ll I ((k:Int)+1)=(k:Int)+1:=iw;have aj:its[k]?=H its[k]:=Lo hkl;generalize its[k]=x at aj;obtain⟨gi,ec,Sc,b5,bc,an,_,aK,_,hO,_,aa,_⟩:=mN aG.out.1 aG.out.2 aj;obtain⟨A20,c20,cj,rfl,b8,hxcI,bi,hxlI,ac,hxdI⟩:=Aw hO;subst b8;subst b5;have bj:=aB.out.lt;have cf:=a3.out.size;have cd:=aM.out.size;have ce:=hO7.out.size;have bX:=ae.out gi bc;have bb:gi∉ak:=fun hm=>by have:=bj gi hm;omega
    have ai:gt∉ak:=fun hm=>by have:=bj gt hm;omega
    have hgtw:gt<wr.heap.size:=by omega
    have bh:lL.size=7:=rfl;rw[bh] at aa;have a0:=fun j u (hu:[F I x.Op.Code,F I x.Op.Arg,F I x.fN,X x.Start,J A20 x.fH.length c20,F I x.fK,X x.fI][j]?=H u)=>(hO7.out.cell an bb _).trans (aa j u hu);have y0:Lg wr ⟨gi,k*7,V⟩=H (F I x.Op.Code):=a0 0 _ rfl;have y1:Lg wr ⟨gi,k*7+1,V⟩=H (F I x.Op.Arg):=a0 1 _ rfl;have y2:Lg wr ⟨gi,k*7+2,V⟩=H (F I x.fN):=a0 2 _ rfl;have y3:Lg wr ⟨gi,k*7+3,V⟩=H (X x.Start):=a0 3 _ rfl;have y4:Lg wr ⟨gi,k*7+4,V⟩=H (J A20 x.fH.length c20):=a0 4 _ rfl;have y5:Lg wr ⟨gi,k*7+5,V⟩=H (F I x.fK):=a0 5 _ rfl;have y6:Lg wr ⟨gi,k*7+6,V⟩=H (X x.fI):=a0 6 _ rfl;have ah:∀ b∈Sc,b∉ak/\b<w9.heap.size:=fun b hb=>⟨fun hm=>by have h1:=bj b hm;have h2:=ae.out b (aK b hb);omega,Ty.jB _ ac b hb⟩;have hchO:(zF.sl 3).O wr [J A20 x.fH.length c20] x.fH Sc:=Ty.hJ _ ac (fun b hb=>hO7.out.block b (ah b hb).2 (ah b hb).1);have hScS:∀ b∈Sc,b∉S7/\w.heap.size<=b:=fun b hb=>⟨fun hm=>(hS7.out b hm).elim (ah b hb).1 (fun h=>by have:=(ah b hb).2;omega),by have h1:=ae.out b (aK b hb);have h2:=a8.out.size;omega⟩;have hgtS:gt∉S7:=fun hm=>(hS7.out gt hm).elim ai (fun h=>by omega);obtain⟨sk,aJ⟩:∃ v,ST[k]?=H v:=⟨_,Lo (by rw[aw.out];omega)⟩
    obtain⟨bC,hskI⟩:=aU.out k sk aJ;have tk:=(hO7.out.cell ao ai k).trans bC;have c6:(k:Int)<(its.length:Int)+1:=by omega
    have bq:=aW.out k x aj;have HAT:=fE (BU (st:=ST) aj);have bw:gi<wr.heap.size:=by omega
    clear a0 aa hO ac aj bC;by_cases hj:x.Op.Code=10∨x.Op.Code=11
    ·obtain⟨ag,ba⟩:∃ ag:Nat,x.Op.Arg=(ag:Int):=⟨x.Op.Arg.toNat,by have:=bq.jump hj;omega⟩
     have bV:ag<=its.length:=by have:=bq.jump hj;omega
     obtain⟨sa,aQ⟩:∃ v,ST[ag]?=H v:=⟨_,Lo (by rw[aw.out];omega)⟩
     obtain⟨s1,aP⟩:∃ v,ST[k+1]?=H v:=⟨_,Lo (by rw[aw.out];omega)⟩
     have hPL:=fE (Bp hj ba aJ aQ aP);obtain⟨bB,c4⟩:=aU.out ag sa aQ;obtain⟨bA,c3⟩:=aU.out (k+1) s1 aP;have ta:=(hO7.out.cell ao ai ag).trans bB;have t1:=(hO7.out.cell ao ai (k+1)).trans bA;have co:=bm.out sa (LP aQ);have cn:=bm.out s1 (LP aP);have cv:Ll I (sa-s1)=sa-s1:=iw;have hvI:fV (sa-s1):=⟨by omega,by omega⟩
     have bU:(ag:Int)<(its.length:Int)+1:=by omega
     have bZ:(k:Int)+1<(its.length:Int)+1:=by omega
     have cs:((k:Int)+1).toNat=k+1:=by omega
     have bY:(0:Int)<=(k:Int)+1:=by omega
     rw[ba] at y1;have HJ:=fE hj;clear hj ba bB bA aJ aQ aP;go_upto_region 21 with(fail);have eb:(wr.alloc (C #[F I x.Op.Code,F I (ag:Int),F I x.fN,X x.Start,J A20 x.fH.length c20,F I x.fK,X x.fI] 131)).heap[wr.heap.size]?=H (C #[F I x.Op.Code,F I (ag:Int),F I x.fN,X x.Start,J A20 x.fH.length c20,F I x.fK,X x.fI] 131 (0,0)):=Lp _ _;have hgYa:fF wr (wr.alloc (C #[F I x.Op.Code,F I (ag:Int),F I x.fN,X x.Start,J A20 x.fH.length c20,F I x.fK,X x.fI] 131)):=(fF.refl _).alloc _;obtain⟨g14,a4⟩:∃ g,wr.heap.size=g:=⟨_,rfl⟩
     rw[a4] at eb |-;have HG14:=fE a4;have hg14S:g14∉S7:=fun hm=>by have h:=hR7.out.lt g14 hm;omega
     clear a4;generalize (wr.alloc _)=Y at eb hgYa |-;obtain⟨o0,o1,o2,o3,o4,o5,o6,of,ol⟩:=mr eb;have ta:=za hgYa ta;have t1:=za hgYa t1;rcases HJ.out with hj | hj
     ·have aZ:(x.Op.Code == 10)=M:=LM.2 hj
      exact vt
     ·have aZ:(x.Op.Code == 10)=U:=Lk.2 (by omega)
      have ax:(x.Op.Code == 11)=M:=LM.2 hj;exact vt
    ·have aZ:(x.Op.Code == 10)=U:=Lk.2 (fun h=>hj (.inl h))
     have ax:(x.Op.Code == 11)=U:=Lk.2 (fun h=>hj (.inr h));have hPL:=fE (Bo hj aJ);clear hj aJ;go_upto_region 23 with(fail);have eb2:(wr.alloc (C #[F I x.Op.Code,F I x.Op.Arg,F I x.fN,X x.Start,J A20 x.fH.length c20,F I x.fK,X x.fI] 131)).heap[wr.heap.size]?=H (C #[F I x.Op.Code,F I x.Op.Arg,F I x.fN,X x.Start,J A20 x.fH.length c20,F I x.fK,X x.fI] 131 (0,0)):=Lp _ _;have hgY:fF wr (wr.alloc (C #[F I x.Op.Code,F I x.Op.Arg,F I x.fN,X x.Start,J A20 x.fH.length c20,F I x.fK,X x.fI] 131)):=(fF.refl _).alloc _;obtain⟨g14,a4⟩:∃ g,wr.heap.size=g:=⟨_,rfl⟩
     rw[a4] at eb2 |-;have HG14:=fE a4;have hg14S:g14∉S7:=fun hm=>by have h:=hR7.out.lt g14 hm;omega
     clear a4;generalize (wr.alloc _)=Y2 at eb2 hgY |-;obtain⟨o0,o1,o2,o3,o4,o5,o6,of,ol⟩:=mr eb2;have tk:=za hgY tk;have hgtY:gt<Y2.heap.size:=Li hgtw hgY.size;have hHY:=hR7.out.fO hgY;have hPY:=hPR.out.fO hgY;go_region_held3 (fun w'=>Lg w' ⟨g14,0,V⟩=H (F I x.Op.Code)/\Lg w' ⟨g14,1,V⟩=H (F I x.Op.Arg)/\Lg w' ⟨g14,2,V⟩=H (F I x.fN)/\Lg w' ⟨g14,3,V⟩=H (X x.Start)/\Lg w' ⟨g14,4,V⟩=H (J A20 x.fH.length c20)/\Lg w' ⟨g14,5,V⟩=H (F I x.fK)/\Lg w' ⟨g14,6,V⟩=H (X x.fI)/\Lg w' ⟨gt,k,V⟩=H (F I sk)) ((repeat' apply Ls) <;> ((repeat (first | with_reducible assumption | with_reducible refine zC ?_ _ _ | with_reducible refine zo ?_ _ | with_reducible refine zb ?_ | with_reducible refine oL ?_ _));done)) (first | (refine zO (L:=rs.length+1) rfl (.tmp 104) (.tmp 111) vg (tt 8) (hHY.fO gF) (W1:=w) (B:=0) (ec:=[F I sk,F I x.Op.Code,F I x.Op.Arg,F I x.fN,X x.Start,J A20 x.fH.length c20,F I x.fK,X x.fI]) (y:=[F I sk,F I x.Op.Code,F I x.Op.Arg,F I x.fN,X x.Start,J A20 x.fH.length c20,F I x.fK,X x.fI]) ⟨rfl,rfl,by intro u hu;simp only[LU,MX,Ox] at hu;rcases hu with rfl | rfl | rfl | rfl | rfl | rfl | rfl | rfl <;> rfl⟩ rfl rfl rfl (by intro j u hu;simpa[go_sem] using hu) rfl (by omega) (by omega) ?_;intro A8 c8 W8 S8 hon hH8 hS8;have o0:=(hon.cell (g:=g14) (Li ol (fF.size gF)) hg14S _).trans (za gF o0);have o1:=(hon.cell (g:=g14) (Li ol (fF.size gF)) hg14S _).trans (za gF o1);have o2:=(hon.cell (g:=g14) (Li ol (fF.size gF)) hg14S _).trans (za gF o2);have o3:=(hon.cell (g:=g14) (Li ol (fF.size gF)) hg14S _).trans (za gF o3);have o4:=(hon.cell (g:=g14) (Li ol (fF.size gF)) hg14S _).trans (za gF o4);have o5:=(hon.cell (g:=g14) (Li ol (fF.size gF)) hg14S _).trans (za gF o5);have o6:=(hon.cell (g:=g14) (Li ol (fF.size gF)) hg14S _).trans (za gF o6);have tk:=(hon.cell (g:=gt) (Li hgtY (fF.size gF)) hgtS _).trans (za gF tk)))
     all_goals go_wp2_with(fail)
     all_goals go_roundw
     case measure=>exact gL
     case rel=>
      have hrow:l9 w.heap.size Y2 S7 [F I sk,F I x.Op.Code,F I x.Op.Arg,F I x.fN,X x.Start,J A20 x.fH.length c20,F I x.fK,X x.fI] (lf ST k x):=by
       rw[hPL.out];exact⟨A20,c20,Sc,rfl,Ty.jl _ hchO hgY,fun b hb=>hScS b hb,hskI,hxcI,bi,hxlI,hxdI⟩
      exact⟨k+1,rs++[[F I sk,F I x.Op.Code,F I x.Op.Arg,F I x.fN,X x.Start,J A20 x.fH.length c20,F I x.fK,X x.fI]],acc++[lf ST k x],A8,c8,S8,by rw[Lj];rfl,by go_num,by omega,fE (xL hO7.out hS7.out (fF.trans hgY gF) hon),fE (yh hO7.out hS7.out (fF.trans hgY gF) hS8),fE (by rw[Lj];exact hH8),fE (gQ.push hPY hrow gF hon hS8),fE (by rw[<-hA4.out,HAT.out,LZ];rfl),by rw[Lj,Mj];omega⟩
   ·obtain rfl:k=its.length:=by omega
    have be:¬ ((its.length:Int)<(its.length:Int)):=by omega
    have bO:Hid (acc=a7++jD its a):=fE (by rw[<-hA4.out,LY];simp[nJ]);have cf:=a3.out.size;have cd:=aM.out.size;have ce:=hO7.out.size;have cc:=a8.out.size;go_wp2_with(fail);go_roundw;exact⟨f+1,a1,rs,acc,A7,c7,S7,rfl,rfl,by go_num,by omega,by omega,by omega,by omega,fE (hO7.out.fO (a8.out.trans (a3.out.trans aM.out)) (fun b hb=>ON (aA.out b hb))),fE ((hO7.out.block w.heap.size (by have:=(blt ap.out);omega) (fun hm=>by have:=aA.out _ hm;omega)).trans (zj ap.out (a3.out.trans aM.out))),fE (fun b hb=>(hS7.out b hb).elim (aA.out b) (fun h=>by have:=(blt ap.out);omega)),hR7,hPR,fE (by rw[<-b4.out,au.out,bO.out,aV.out,LZ])⟩;exact gL
 ·obtain rfl:f=(zk p).length:=by omega
  have bW:¬ (((zk p).length:Int)<((zk p).length:Int)):=by omega
  have HQ:Hid (a7=zK p ⟨bF,bI,bFo,bS⟩ image):=fE (by rw[<-b4.out,Mq];simp[l0]);go_wp2_with(first | (go_at_call 91;(with_reducible refine(zcA (Ty.up _ hx (a8.out.trans gF)) hll).mono ?_);rintro e w5 ⟨A5,c5,S5,rfl,b6,b7,a2⟩));exact Ln (v:=J aL aR.length aO) (by simp[Ly,results34,go_sem]) rfl (show py _ w _ _ from by rw[<-HQ.out];exact⟨aL,aO,aR,ak,by rw[ar.out.1],by rw[<-ar.out.1];exact(aB.out.fO a2).fO gF,(ar.out.fO a2).fO gF,fun b hb=>ON (aA.out b hb),(a8.out.trans a2).trans gF⟩)
end Go.Proofs.YtiihkapmggfjkaaGreat
