/-
  PART.
-/
import Derived.Test.YthgbglbaemelhaaGreatM22LawSlices
import Derived.Test.YthgbglbaemelhaaGreatM33LawSlices
import Derived.Test.YthgbglbaemelhaaGreatM35LawSlices
set_option linter.unusedVariables false
set_option linter.unusedSimpArgs false
set_option maxRecDepth 100000
set_option maxHeartbeats 8000000
namespace Go.Proofs.YthgbglbaemelhaaGreat
open Value renaming slice->G,int->J,bool->H,string->V
open IntKind renaming i64->C,wrap->QP
open Option renaming none->D,some->Z,getD_some->Sq
open Obj renaming cells->F
open Bool renaming false->I,true->M
open Go renaming World->U,results->Rd,Calls->Rh,Addr->Ri,yielded->Su,undef->TE
open World renaming cell?->QL,frozen?->Rb
open _root_.Int renaming toNat_natCast->Ra
open List renaming length_cons->Rc,length_nil->Ru,getElem?_cons_zero->RA,nil_append->RC,length_singleton->RD
open RowKit renaming intOf->Ry
open Region renaming wanted->Rx,ready->RL,noSelect->Tn,Mode->Ts,free->Ui
open Tryz
open Go.RowKit
variable {A:X Ri}{S S' S0:Q Nat}{W W' Wa a w:U}{b:fV}{c f g i k lo m n:Nat}{e:TypeId}{image sk words:Int}{l:Q fP}{p:Q fv}{q:fC}{r:Q Value}{rs:Q (Q Value)}{st:Q Int}{u v:Value}{x:fP}{xs:Q fL}
theorem DG {P:jj}(hR:qi P):∀ d:Nat,AU P d
 | 0=>zo7 hR (KV hR.env)
 | d+1=>zo7 hR (Lo hR (DG hR d))
def oY (p:Q fv)(b:fV)(f:Nat)(words:Int)(g:Int):fW:=⟨p,b.Inline,ll b f,words,((zZ p g).length:Int)⟩
def ph (p:Q fv)(g:Int):fG:=⟨g,[],zq p g,0,M,[]⟩
def oK (p:Q fv)(b:fV)(f:Nat)(words:Int)(g:Int):fS:=(zB (oY p b f words g) ⟨[],0,((zq p g).length:Int)-((zZ p g).length:Int),I⟩ (if ll b f=M then 13 else 15) words g []).gw words
theorem KF {g:Int} (hg:(zp p)[f]?=Z g):kQ p b f words=((iX (oY p b f words g) 4 [g] (ph p g) (oK p b f words g)).1.items,(iX (oY p b f words g) 4 [g] (ph p g) (oK p b f words g)).1.gL):=by
 unfold kQ;rw[hg];rfl
theorem NT {g:Int} (hp:j9 p)(hb:fT b.Inline 0 3=M)(hg:(zp p)[f]?=Z g)(hw:0<=words/\words<=100) :
  gP (oY p b f words g)/\iu (oY p b f words g) (ph p g)/\iB (oY p b f words g) (oK p b f words g)/\∃(i e:Nat) (x:fv),g=(i:Int)/\p[i]?=Z x/\x.fM=zZ p g/\gz p i e/\x.fM.length<=4/\(zq p g).length<=8/\x.fM.length<=(zq p g).length:=by
 have a2:=vH hg
 have hE:gP (oY p b f words g):=by
  obtain⟨i,rfl,x,hx,h0⟩:=a2;have:=hp.args i x hx;exact⟨hp,zu.1 hb,hw,by unfold oY;rw[vG hx];exact⟨by simp only;omega,by simp only;omega⟩⟩
 have a0:=a2.parts hE;simp only[oY] at a0;obtain⟨i,rfl,x,hx,h0⟩:=a2;obtain⟨e,he,h8,a3⟩:=hp.body i x hx h0;have a7:=(QM.1 hx).1;have a5:=vG hx
 have hs:iu (oY p b f words i) (ph p i):=by
  refine⟨⟨i,e,x,rfl,hx,h0,he,a3⟩,⟨rfl,h8⟩,⟨SK _,by simp[ph]⟩,⟨by simp[ph],fun c hc=>(by cases hc)⟩,fun _=>⟨rfl,rfl,by show ((zZ p (i:Int)).length:Int)<=((zq p (i:Int)).length:Int);omega⟩⟩
 have hm:iB (oY p b f words i) (oK p b f words i):=by
  refine⟨?_,by simp[oK,zB,fS.gw]⟩;intro j y hy;have a6:=(QM.1 hy).1;simp only[oK,fS.gw,zB,RC,Rc,Ru] at a6;have hj:j=0:=by omega
  subst hj;simp only[oK,fS.gw,zB,RC,RA,Rv] at hy;subst hy;have a4:kM p (i:Int)=0:=by rw[xI hx];exact h0
  simp only[oK,fS.gw,zB,RC,tF,Ru,TS,decide_false,US];have a1:(if ll b f=M then (13:Int) else 15)=13∨(if ll b f=M then (13:Int) else 15)=15:=by split <;> simp
  generalize (if ll b f=M then (13:Int) else 15)=code at a1;refine⟨by simp only;omega,fun h=>by simp only at h;omega,fun h h'=>by simp only at h h';omega,fun h=>by simp only at h;omega,fun h=>by simp only at h;omega,fun _ _=>hw,fun h=>by simp only at h;omega,⟨by simp only;omega,by simp only[oY];omega⟩,⟨by simp,fun c hc=>(by cases hc)⟩,⟨by simp,by simp,fun h=>(by cases h)⟩,⟨fun _=>?_,fun _=>rfl⟩⟩;rcases a1 with h | h
  ·exact .inl h
  ·exact .inr ⟨h,a4⟩
 exact⟨hE,hs,hm,i,e,x,rfl,hx,a5.symm,he,hp.args i x hx,h8,by rw[<-a5];exact a0.2.1⟩
theorem Ks {QC:Int} (h0:0<=QC)(h1:QC<=63)(f:Nat):(bits .and C (QC / 2 ^ f) 1 == 1)=decide (QC / 2 ^ f % 2=1):=by
 obtain⟨n,rfl⟩:=Rl h0;have he:((n:Int) / 2 ^ f)=((n / 2 ^ f:Nat):Int):=by rw[Int.natCast_ediv,Int.natCast_pow];rfl
 have a0:n / 2 ^ f<=n:=Nat.div_le_self _ _;rw[he,AD _ (by omega)];cases h:decide ((((n / 2 ^ f:Nat):Int)) % 2=1) with
 | true=>rw[Ug] at h;rw[h];rfl
 | false=>rw[RW] at h;exact QV.2 h
theorem MF {j:Nat} (hc:QL W ⟨g,i,D⟩=Z v)(hn:i≠j):(W.setCell ⟨g,j,D⟩ u).cell? ⟨g,i,D⟩=Z v:=by
 have h:(⟨g,i,D⟩:Ri)≠⟨g,j,D⟩:=fun e=>hn (by injection e);simpa[go_sem,h] using hc
theorem ig.up {P:jj} {m:fS} {rows:Q (Q Value)} {Ai As:X Ri} {ci cs:Nat} {Si Ss:Q Nat} (h:ig P m rows W Ai ci Si As cs Ss)(hg:ft W W'):ig P m rows W' Ai ci Si As cs Ss:=
 ⟨zj h.box hg,h.hJ.fx hg,h.nh.fx hg,h.jS,h.gn,h.fx.trans hg,h.low⟩
def AS (x:Q fP × Int)(w:U)(r:Ending)(w':U):Prop:=∃ A c S,r=.returned (.tuple #[G A x.1.length c,J C x.2])/\Has (oT.sl 227) w' [G A x.1.length c] x.1 S/\(∀ b∈S,w.heap.size<=b)/\ft w w'
theorem tM {g:Prop} (f:g:=by
  rw[HPG.out,hst2.out] at hN8
  generalize (w7.setCell _ _)=w8 at hN8 |-
  obtain⟨L8,hS8,_,_⟩:=hN8
  clear q9 qf ql hN7 hS7
  have hcall:=DG hR 3 ⟨D,0,[],A3,c3,S3⟩ (oK p b f words i) [] (ph p i) w8 L8 [] i e hS8 rfl (by simp) (by rw[HPE.out];exact HS.out) rfl rfl rfl (by rw[HPE.out];exact HM.out) (by simp[oK,zB,fS.gw]) rfl (by rw[HPE.out];exact HE.out) (by show 0<=words;omega) (by show words<=jN 4;unfold jN;omega)
  rw[HPG.out] at hcall
  go_upto_region 10 with(first | (go_at_call 204;(with_reducible refine hcall.mono ?_);rintro e9 w9 ⟨rfl,hN9⟩))
  obtain⟨L9,⟨Av9,cv9,Sv9,Lm9,hB9,_⟩,_,_⟩:=hN9
  obtain⟨Ai,ci,Si,As,cs,Ss,hM9,_⟩:=hB9.st
  have hbx9:=hM9.box
  rw[HPG.out] at hbx9
  obtain⟨q0,q1,q2,q3,q4,q5,q6,q7,q8,q9,q10,q11,q12,qf,ql⟩:=nr hbx9
  have HCC:Hid (kQ p b f words=((iX P.E (3+1) ([]++[(ph p i).f]) (ph p i) (oK p b f words i)).1.items,(iX P.E (3+1) ([]++[(ph p i).f]) (ph p i) (oK p b f words i)).1.gL)):=fh (by rw[HC.out,HPE.out];rfl)
  generalize (iX P.E (3+1) ([]++[(ph p i).f]) (ph p i) (oK p b f words i)).1=MR at hM9 q7 q10 HCC
  have hgF:ft w w9:=hgw1.trans (by have h:=hM9.fx;rwa [HPY.out] at h)
  have hlowS:∀ b∈Si,w.heap.size<=b:=fun b hb=>by have h:=hM9.low.2.1 b hb;rw[HPY.out] at h;exact Rj hgw1.size h
  go_quiet (fail)
  go_wp2_with(fail)
  exact QU (v:=.tuple #[G Ai MR.items.length ci,J C MR.gL]) (by simp[Rd,results196,go_sem]) rfl (show AS (kQ p b f words) w _ _ from by rw[HCC.out];exact⟨Ai,ci,Si,rfl,hM9.hJ.fx gF,hlowS,hgF.trans gF⟩)):g:=f
theorem zmu (hx:(zJ.sl 99).R w w.heap.size [G A p.length c] p)(hl:∀ x∈p,x.fM.length<=1099511627776/\x.Expr.length<=1099511627776)(hp:j9 p)(hb:jM b=M)(hf:f<(zp p).length)(hw:0<=words/\words<=100) :
  Rh prog 196 #[G A p.length c,J C f,.agg #[J C b.Frames,J C b.Inline,H b.Fold,H b.Split],J C words] w (AS (kQ p b f words) w):=by
 have a9:=hb;unfold jM at a9;rw[Q4] at a9;have ay:=zu.1 a9.1;have bm:=zu.1 a9.2;obtain⟨g,hg⟩:∃ g,(zp p)[f]?=Z g:=⟨_,QW hf⟩
 obtain⟨hE,hS,hM,i,e,x,rfl,af,b8,he,aR,aY,bk⟩:=NT hp a9.2 hg hw;have aX:=(QM.1 af).1;have br:=hp.len;have bo:=hp.mj;have aA:p.length<=1099511627776:=by omega
 have HC:=fh (KF (b:=b) (words:=words) hg);have bn:(f:Int)<((zp p).length:Int):=by omega
 have bq:(i:Int)<(p.length:Int):=by omega
 have aV:(bits .and C (b.Frames / 2 ^ f) 1 == 1)=ll b f:=Ks ay.1 ay.2 f;go_enter func196,ntmps196;go_upto_region 2 with(first | (go_at_call 106;(with_reducible refine(zbB (Ty.up _ hx gF) aA).mono ?_);rintro e9 w1 ⟨A1,c1,S1,rfl,aN,bj,az⟩;obtain⟨gf,of,y1,aM,ao,bu,_⟩:=lI aN.read hf));obtain rfl:y1=(i:Int):=by rw[hg] at ao;injection ao with h;exact h.symm
 subst aM;obtain⟨gp,op,x',aI,aK,bb,be,rfl,bp,a6,x0,x1,x2,x3,_⟩:=lK hx aX;obtain rfl:x=x':=by rw[af] at a6;injection a6
 have eb:w1.heap[w.heap.size]?=Z (F #[J C b.Frames,J C b.Inline,H b.Fold,H b.Split] 71 (0,0)):=zj (QO w _) az;have hgw1:ft w w1:=ft.trans (b:=_) gF az;have x2:=za hgw1 x2;obtain⟨gb,a5⟩:∃ g,w.heap.size=g:=⟨_,rfl⟩
 rw[a5] at eb |-;have bc:=fh a5;have bd:=fh af;have HG:=fh hg;clear a5 ao af a6 hg x0 x1 x3;obtain⟨b0,b1,b2,b3,bf,bl⟩:=iJ eb;go_cut [11] from 17 to 33 (fun v wx=>∃ g,v=.pointer (Z ⟨g,0,D⟩)/\ft w1 wx/\wx.heap[g]?=Z (F #[G (Z ⟨gp,op,D⟩) p.length c,J C b.Frames,J C b.Inline,H b.Fold,H b.Split,H (ll b f),J C words,J C 0,J C (zZ p (i:Int)).length,J C 0,G D 0 0,G D 0 0,H I] 251 (0,0))/\w1.heap.size<=g)
 case first=>
  go_region_held3 (fun w'=>QL w' ⟨gb,0,D⟩=Z (J C b.Frames)/\QL w' ⟨gb,1,D⟩=Z (J C b.Inline)/\QL w' ⟨gb,2,D⟩=Z (H b.Fold)/\QL w' ⟨gb,3,D⟩=Z (H b.Split)/\QL w' ⟨gp,op+i*4+2,D⟩=Z (G aI x.fM.length aK)) ((repeat' apply QQ) <;> (first | ((repeat (first | assumption | with_reducible refine zd ?_ _ _ | with_reducible refine zk ?_ _ | with_reducible refine zc ?_));done) | (simp[go_sem];done))) (fail)
  all_goals go_wp2_with(fail)
  all_goals go_meet
  all_goals exact⟨_,rfl,gF,zj (QO w1 _) gF,Q8 _⟩
 case rest=>
  obtain⟨g,rfl,ae,ac,b4⟩:=hcut;clear aV x2;obtain⟨P,hP⟩:∃ P:jj,P=⟨oY p b f words i,b,Z ⟨gp,op,D⟩,c,g,w1⟩:=⟨_,rfl⟩
  have hR:qi P:=by rw[hP];exact⟨Ty.up _ hx hgw1,hl,hE⟩
  have aq:ig P ⟨[],0,0,I⟩ [] wc D 0 [] D 0 []:=by rw[hP];exact⟨ac,Has.nil _ _ _,Has.nil _ _ _,(fun b hb=>by cases hb),⟨by simp,by simp⟩,ae,⟨b4,(fun b hb=>by cases hb),(fun b hb=>by cases hb)⟩⟩
  have av:P.g=g:=by rw[hP]
  have au:P.Y=w1:=by rw[hP]
  obtain⟨z0,z1,z2,z3,z4,z5,z6,z7,z8,z9,aF,aG,aH,zf,zl⟩:=nr ac;have HP:=fh hP;have HPG:=fh av;have HPY:=fh au;have aJ:=fh aY;clear hP av au;go_upto_region 4 with(first | (go_at_call 191;(with_reducible refine(zh0 (Ty.up _ hx ((hgw1.trans ae).trans gF)) aA hl).mono ?_);rintro e9 w4 ⟨A3,c3,S3,rfl,ah,aw,ak⟩;have aT:=zj ac ak;obtain⟨z0,z1,z2,z3,z4,z5,z6,z7,z8,z9,aF,aG,aH,zf,zl⟩:=nr aT));have an:P.g<w4.heap.size:=by rw[HPG.out];exact zl
  obtain⟨gs,am⟩:∃ gs,w4.heap.size=gs:=⟨_,rfl⟩
  have a8:Has ((mY 6).sl 253) (w4.alloc (F #[J C (i:Int),G D 0 0,G A3 (zq p i).length c3,J C 0,H M,G D 0 0] 253)) [G (Z ⟨w4.heap.size,0,D⟩) [[J C (i:Int),G D 0 0,G A3 (zq p i).length c3,J C 0,H M,G D 0 0]].length 1] [[J C (i:Int),G D 0 0,G A3 (zq p i).length c3,J C 0,H M,G D 0 0]] [w4.heap.size]:=
   ⟨pS (xs:=[[J C (i:Int),G D 0 0,G A3 (zq p i).length c3,J C 0,H M,G D 0 0]]) (QO w4 _) ⟨[J C (i:Int),G D 0 0,G A3 (zq p i).length c3,J C 0,H M,G D 0 0],[],[],[],by simp,rfl,⟨rfl,rfl,by intro u hu;simp only[Rp,RO,SH] at hu;rcases hu with rfl | rfl | rfl | rfl | rfl | rfl <;> rfl,rfl⟩,rfl,rfl⟩ (by simp),by simp⟩
  have a7:=(aq.up ak).scopes (W':=w4.alloc _) (((ft.refl w4).alloc _).only _) a8 (fun b hb=>.inr (by simp only[QN] at hb;omega));rw[Je _ _ _ _ an,HPG.out] at a7
  have a1:((w4.setCell ⟨g,11,D⟩ (G (Z ⟨w4.heap.size,0,D⟩) 1 1)).alloc (F #[J C (i:Int),G D 0 0,G A3 (zq p i).length c3,J C 0,H M,G D 0 0] 253)).heap[w4.heap.size]?=Z (F #[J C (i:Int),G D 0 0,G A3 (zq p i).length c3,J C 0,H M,G D 0 0] 253 (0,0)):=by
   have h:=QO (w4.setCell ⟨g,11,D⟩ (G (Z ⟨w4.heap.size,0,D⟩) 1 1)) (F #[J C (i:Int),G D 0 0,G A3 (zq p i).length c3,J C 0,H M,G D 0 0] 253);have hz:(w4.setCell ⟨g,11,D⟩ (G (Z ⟨w4.heap.size,0,D⟩) 1 1)).heap.size=w4.heap.size:=by simp
   rwa [hz] at h
  rw[RD] at a7;rw[am] at a7 a1 |-;have ag:=fh am;clear am a8;generalize ((w4.setCell _ _).alloc _)=w5 at a7 a1 |-;obtain⟨ai,ar⟩:=a7;have a4:P.g∉S3:=fun hm=>by have h:=aw _ hm;rw[HPG.out] at h;omega
  have aa:gs∉S3:=fun hm=>by have h:=ah.lt _ hm;have h2:=ag.out;omega
  have b5:∀ b∈S3,w.heap.size<=b:=fun b hb=>Rj (hgw1.trans ae).size (aw b hb);have aO:=ah.fJ ar (fun b hb hm=>by simp at hm;rw[HPG.out] at a4;exact a4 (hm ▸ hb))
  have ax:nD P ⟨D,0,[],A3,c3,S3⟩ ⟨[],0,0,I⟩ [] (ph p i) w5 (P.g::([]++[gs])++[]):=
   ⟨D,0,[],P.g::([]++[gs]),⟨⟨D,0,[],Z ⟨gs,0,D⟩,1,[gs],ai,rfl⟩,Has.nil _ _ _,aO,Has.nil _ _ _,(fun b hb=>by cases hb),(fun b hb=>⟨fun hm=>by
    simp only[RC,Rp,RO,SH] at hm;rcases hm with h | h
    ·exact a4 (h ▸ hb)
    ·exact aa (h ▸ hb),by simp⟩),(fun b hb=>by cases hb),(fun b hb=>by cases hb)⟩,rfl⟩
  have bi:∀ b∈(P.g::([]++[gs])++[]),w.heap.size<=b:=fun b hb=>by
   have h1:=(hgw1.trans ae).size;have h2:=ak.size;have h3:=ag.out;have h4:=hgw1.size;simp only[RC,SC,Rp,RO,SH] at hb;rcases hb with h | h
   ·rw[h,HPG.out];omega
   ·omega
  have a2:=ai.box;rw[HPG.out] at a2;obtain⟨y0,y1,y2,y3,y4,y5,y6,y7,y8,y9,b9,aE,ba,yf,yl⟩:=nr a2;obtain⟨r0,r1,r2,r3,r4,r5,rf,rl⟩:=mM a1;have aC:P.E.args=((zZ p i).length:Int):=by rw[HP.out];rfl
  have aD:P.E.gV=ll b f:=by rw[HP.out];rfl
  rw[aC] at y8;rw[aD] at y5;rw[RD] at aE;have al:gs≠g:=fun e=>by have h:=ag.out;omega
  have aS:(zZ p (i:Int)).length<=4:=by rw[<-b8];exact aR
  have aZ:=aJ.out;have bt:QP C (((zq p i).length:Int)-((zZ p i).length:Int))=((zq p i).length:Int)-((zZ p i).length:Int):=iw;have HPE:=fh (show P.E=oY p b f words i by rw[HP.out]);clear aC aD z0 z1 z2 z3 z4 z5 z6 z7 z8 z9 aF aG aH zf zl ac a1 ah ai ar aq a2;go_region_held3 (fun w'=>QL w' ⟨g,11,D⟩=Z (G (Z ⟨gs,0,D⟩) 1 1)/\QL w' ⟨g,8,D⟩=Z (J C (zZ p i).length)/\QL w' ⟨gs,2,D⟩=Z (G A3 (zq p i).length c3)) ((repeat' apply QQ) <;> ((repeat (first | with_reducible assumption | with_reducible refine zc ?_ | with_reducible refine MF ?_ (by decide) | with_reducible refine xX ?_ al));done)) (fail)
  all_goals go_upto_region 5 with(fail)
  have aj:=((gg.refl ax).num (m':=⟨[],0,((zq p i).length:Int)-((zZ p i).length:Int),I⟩) (i:=7) (v:=J C (((zq p i).length:Int)-((zZ p i).length:Int))) rfl (fun _ _ _ _ _ _ _ _ _=>rfl)).fx ((ft.refl _).drew);rw[HPG.out] at aj;generalize ((w5.setCell _ _).drew)=w6 at aj |-;obtain⟨L6,aQ,_,_⟩:=aj;obtain⟨Av,cv,Sv,Lm,ab,aP⟩:=aQ;obtain⟨q0,q1,q2,q5,q6,q7,q8,q9,q12,qf,ql⟩:=ab.st.ij;rw[HPG.out] at q5 ql;rw[HPE.out] at q5;clear y0 y1 y2 y3 y4 y5 y6 y7 y8 y9 b9 aE ba yf yl r0 r1 r2 r3 r4 r5 rf rl q0 q1 q2 q6 q7 q8 q9 q12 qf ax;have b7:fD words:=⟨by omega,by omega⟩
  have aW:fD (i:Int):=⟨by omega,by omega⟩
  have bg:fD 13:=⟨by omega,by omega⟩
  have bh:fD 15:=⟨by omega,by omega⟩
  have aL:fD 0:=⟨by omega,by omega⟩
  have b6:(zr.sl 3).R w6 w6.heap.size [G D ([]:Q Int).length 0] ([]:Q Int):=(Has.nil zr 3 w6).read;have HM:=fh hM;have HS:=fh hS;have HE:=fh he;clear hM hS he;obtain⟨fb,a3⟩:∃ fb,ll b f=fb:=⟨_,rfl⟩
  have ap:=fh a3;have aB:(oY p b f words i).gV=fb:=a3;rw[aB] at q5;clear a3 aB
  have bs:Hid (zB P.E ⟨[],0,((zq p i).length:Int)-((zZ p i).length:Int),I⟩ (if fb=M then 13 else 15) words i []=(oK p b f words i).gw 0):=fh (by
   rw[HPE.out,<-ap.out]
   rfl)
  have hst2:Hid ((zB P.E ⟨[],0,((zq p i).length:Int)-((zZ p i).length:Int),I⟩ (if fb=M then 13 else 15) words i []).gw words=oK p b f words i):=fh (by
   rw[HPE.out,<-ap.out]
   rfl)
  obtain⟨code,a0⟩:∃ code:Int,(if fb=M then 13 else 15)=code:=⟨_,rfl⟩
  rw[a0] at hst2;have aU:fD code:=by rw[<-a0];split <;> exact⟨by omega,by omega⟩
  have ad:=zeQ (code:=code) (arg:=words) (line:=(i:Int)) (chain:=[]) (Ac:=D) (cc:=0) ab.st b6 (by simp) (by simp) aU b7 aW aL;rw[HPG.out] at ad;simp only[Ru] at ad;cases fb with
  | true=>
   obtain rfl:code=13:=a0.symm;go_upto_region 8 with(first | (go_at_call 203;(with_reducible refine ad.mono ?_);rintro e9 w7 ⟨rfl,hN7⟩));obtain⟨L7,hS7,_,_⟩:=ab.next hN7;obtain⟨q0,q1,q2,q5,q6,q7,q8,q9,q12,qf,ql⟩:=(show jf P _ _ w7 _ from(Sr (Sr (Sr (Sr hS7)))).1.st).ij;rw[HPG.out] at q9 qf ql;clear q0 q1 q2 q5 q6 q7 q8 q12;go_upto_region 9 with(fail);have hN8:=(gg.refl hS7).num (m':=(zB P.E ⟨[],0,((zq p i).length:Int)-((zZ p i).length:Int),I⟩ 13 words i []).gw words) (i:=9) (v:=J C words) rfl (fun _ _ _ _ _ _ _ _ _=>rfl);exact tM
  | false=>
   obtain rfl:code=15:=a0.symm;go_upto_region 8 with(first | (go_at_call 203;(with_reducible refine ad.mono ?_);rintro e9 w7 ⟨rfl,hN7⟩));obtain⟨L7,hS7,_,_⟩:=ab.next hN7;obtain⟨q0,q1,q2,q5,q6,q7,q8,q9,q12,qf,ql⟩:=(show jf P _ _ w7 _ from(Sr (Sr (Sr (Sr hS7)))).1.st).ij;rw[HPG.out] at q9 qf ql;clear q0 q1 q2 q5 q6 q7 q8 q12;go_upto_region 9 with(fail);have hN8:=(gg.refl hS7).num (m':=(zB P.E ⟨[],0,((zq p i).length:Int)-((zZ p i).length:Int),I⟩ 15 words i []).gw words) (i:=9) (v:=J C words) rfl (fun _ _ _ _ _ _ _ _ _=>rfl);exact tM
def GX (xs:Q fP)(w:U)(r:Ending)(w':U):Prop:=∃ A c S,r=.returned (G A xs.length c)/\Has (oT.sl 227) w' [G A xs.length c] xs S/\(∀ b∈S,w.heap.size<=b)/\ft w w'
theorem LV (hF:mC p):∀ y∈p.map jU,y.fM.length<=1099511627776/\y.Expr.length<=1099511627776:=by
 intro y hy;obtain⟨i,hi⟩:=Ti hy;obtain⟨x,hx,rfl⟩:=tu hi;have ha:=hF.c.args i x hx;refine⟨by show x.fM.length<=_;omega,?_⟩
 have a0:x.Expr.length<=20/\(0<x.Expr.length->(qQ x.Expr).length<=20):=by
  by_cases he:qX x.Kind=M
  ·have h1:=(rT (hF.line i x hx)).2.2.2
   unfold rp at h1;rw[Q5 he] at h1;obtain⟨e,g1,g2,g3,g4⟩:=yH h1;obtain⟨e',w1,w2,w3⟩:=e.ic g1;refine⟨g3,fun _=>?_⟩;rw[g4,<-w2,e'.gj];rw[g2,e.gj] at g3;omega
  ·have h1:=(rT (hF.line i x hx)).2.2.2
   unfold rp at h1;rw[QZ he] at h1;simp only[Rg] at h1;exact⟨by omega,fun h=>by omega⟩
 show (if 0<x.Expr.length then qQ x.Expr else x.Expr).length<=_;split
 ·rename_i h
  have:=a0.2 h;omega
 ·omega
theorem uc {g:Prop} (f:g:=by
  rintro e w6 ⟨A6,c6,S6,rfl,hH6,hS6,hg6⟩
  go_wp2_with(fail)
  exact QU (v:=G A6 R2.1.length c6) (by simp[Rd,results166,go_sem]) rfl (show GX _ w _ _ from by rw[HC.out];exact⟨A6,c6,S6,rfl,hH6.fx gF,fun b hb=>Rj (hgT.trans ((ft.trans (b:=_) gF hg5).trans gF)).size (hS6 b hb),(hgT.trans (ft.trans (b:=_) gF hg5)).trans ((ft.trans (b:=_) gF hg6).trans gF)⟩)):g:=f
theorem zvn (hx:(zJ.sl 99).R w w.heap.size [G A p.length c] p)(hs:∀ x∈p,x.fM.length<=1099511627776/\x.Expr.length<=1099511627776)(hp:zv p=M)(hb:jM b=M)(hf:f<(zp p).length) :
  Rh prog 166 #[G A p.length c,J C f,.agg #[J C b.Frames,J C b.Inline,H b.Fold,H b.Split]] w (GX (ki p b f) w):=by
 have hF:=qj hp;have al:=hF.len;have ap:=hF.mj;have hl:p.length<=1099511627776:=by omega
 have aj:fT b.Inline 0 3=M:=by unfold jM at hb;rw[Q4] at hb;exact hb.2
 have ao:¬ ((f:Int)<0):=by omega
 have an:¬ ((f:Int)≥((zp p).length:Int)):=by omega
 have ak:¬ (((zp p).length:Int)<=(f:Int)):=by omega
 have HP:=fh hp;have HB:=fh hb
 -- what compiling comes to at a program
 have a6:∀(q:Q fv) (hq:j9 q) (a5:f<(zp q).length) (ab:∀ x∈q,x.fM.length<=1099511627776/\x.Expr.length<=1099511627776),∃ R1 R2,kQ q b f 0=R1/\kQ q b f R1.2=R2/\
   (∀(W:U) (A:X Ri) (c:Nat),(zJ.sl 99).R W W.heap.size [G A q.length c] q->Rh prog 196 #[G A q.length c,J C f,.agg #[J C b.Frames,J C b.Inline,H b.Fold,H b.Split],J C 0] W (AS R1 W))/\
   (∀(W:U) (A:X Ri) (c:Nat),(zJ.sl 99).R W W.heap.size [G A q.length c] q->Rh prog 196 #[G A q.length c,J C f,.agg #[J C b.Frames,J C b.Inline,H b.Fold,H b.Split],J C R1.2] W (AS R2 W)):=by
  intro q hq a5 ab;obtain⟨_,_,_,h4,h5⟩:=yM (words:=0) hq aj a5 ⟨by omega,by omega⟩;exact⟨_,_,rfl,rfl,fun W A c h=>zmu h ab hq hb a5 ⟨by omega,by omega⟩,fun W A c h=>zmu h ab hq hb a5 ⟨h4,by omega⟩⟩
 obtain⟨bF,bI,ae,bS⟩:=b;cases ae with
 | false=>
  obtain⟨R1,R2,e1,e2,c1,c2⟩:=a6 p hF.c hf hs;have HC:Hid (ki p ⟨bF,bI,I,bS⟩ f=R2.1):=fh (by unfold ki;simp only;rw[QZ (by simp),e1,e2]);have C1:=fh c1;have C2:=fh c2;have BO:=fun w=>xP (b:=⟨bF,bI,I,bS⟩) (w:=w);have a7:=fh BO;clear e1 e2 c1 c2 a6 hp hb BO;go_enter func166,ntmps166;go_wp2_with(first | (go_at_call 102;(with_reducible refine(zaD (Ty.up _ hx gF) hl hs).mono ?_);rw[HP.out];rintro e w1 ⟨rfl,a2⟩;obtain⟨b0,b1,b2,b3,bf,bl⟩:=iJ (zj (QO w (F #[J C bF,J C bI,H I,H bS] 71)) a2)) | (go_at_call 104;(with_reducible refine(a7.out _).mono ?_);rw[HB.out];rintro e w2 ⟨rfl,a0⟩;have hgT:ft w w2:=(ft.trans (b:=_) gF a2).trans (ft.trans (b:=_) gF a0);have b0:=za a0 b0;have b1:=za a0 b1;have b2:=za a0 b2;have b3:=za a0 b3) | (go_at_call 106;(with_reducible refine(zbB (Ty.up _ hx (hgT.trans gF)) hl).mono ?_);rintro e w3 ⟨A3,c3,S3,rfl,af,ah,a1⟩;have hgT:=hgT.trans (ft.trans (b:=_) gF a1);have b0:=za a1 b0;have b1:=za a1 b1;have b2:=za a1 b2;have b3:=za a1 b3));refine(C1.out _ _ _ (Ty.up _ hx (hgT.trans gF))).mono ?_;rintro e w5 ⟨A5,c5,S5,rfl,ag,ai,hg5⟩;have b0:=za hg5 b0;have b1:=za hg5 b1;have b2:=za hg5 b2;have b3:=za hg5 b3;go_wp2_with(fail);refine(C2.out _ _ _ (Ty.up _ (Ty.up _ hx (hgT.trans gF)) (ft.trans (b:=_) gF hg5))).mono ?_;exact uc
 | true=>
  have a4:qo p=p.map jU:=by unfold qo;rw[Q5 hp]
  have a8:=hF.fold;have a9:f<(zp (p.map jU)).length:=by rw[xD];exact hf
  have aa:=LV hF;generalize p.map jU=q at a4 a8 a9 aa;obtain⟨R1,R2,e1,e2,c1,c2⟩:=a6 q a8 a9 aa;have HC:Hid (ki p ⟨bF,bI,M,bS⟩ f=R2.1):=fh (by unfold ki;simp only[Tk];rw[a4,e1,e2]);have ad:=fh a4;clear a4 a8 a9 aa;have C1:=fh c1;have C2:=fh c2;have BO:=fun w=>xP (b:=⟨bF,bI,M,bS⟩) (w:=w);have a7:=fh BO;clear e1 e2 c1 c2 a6 hp hb BO;go_enter func166,ntmps166;go_wp2_with(first | (go_at_call 102;(with_reducible refine(zaD (Ty.up _ hx gF) hl hs).mono ?_);rw[HP.out];rintro e w1 ⟨rfl,a2⟩;obtain⟨b0,b1,b2,b3,bf,bl⟩:=iJ (zj (QO w (F #[J C bF,J C bI,H M,H bS] 71)) a2)) | (go_at_call 104;(with_reducible refine(a7.out _).mono ?_);rw[HB.out];rintro e w2 ⟨rfl,a0⟩;have hgT:ft w w2:=(ft.trans (b:=_) gF a2).trans (ft.trans (b:=_) gF a0);have b0:=za a0 b0;have b1:=za a0 b1;have b2:=za a0 b2;have b3:=za a0 b3) | (go_at_call 106;(with_reducible refine(zbB (Ty.up _ hx (hgT.trans gF)) hl).mono ?_);rintro e w3 ⟨A3,c3,S3,rfl,af,ah,a1⟩;have hgT:=hgT.trans (ft.trans (b:=_) gF a1);have b0:=za a1 b0;have b1:=za a1 b1;have b2:=za a1 b2;have b3:=za a1 b3) | (go_at_call 195;(with_reducible refine(zqs (Ty.up _ hx (hgT.trans gF)) hl hs).mono ?_);rw[ad.out];rintro e w4 ⟨A4,c4,S4,rfl,ac,am,a3⟩;have hgT:=hgT.trans (ft.trans (b:=_) gF a3);have b0:=za a3 b0;have b1:=za a3 b1;have b2:=za a3 b2;have b3:=za a3 b3));refine(C1.out _ _ _ (Ty.up _ ac.read gF)).mono ?_;rintro e w5 ⟨A5,c5,S5,rfl,ag,ai,hg5⟩;have b0:=za hg5 b0;have b1:=za hg5 b1;have b2:=za hg5 b2;have b3:=za hg5 b3;go_wp2_with(fail);refine(C2.out _ _ _ (Ty.up _ (Ty.up _ ac.read gF) (ft.trans (b:=_) gF hg5))).mono ?_;exact uc
theorem zsC (hf:f<=1000):Rh prog 165 #[.agg #[J C b.Frames,J C b.Inline,H b.Fold,H b.Split],J C f,J C image] w fun e w'=>e=.returned (H (ni b f image))/\ft w w':=by
 obtain⟨bF,bI,a0,bS⟩:=b;have hm:=AD f (by omega);cases bS with
 | true=>
  have HI:Hid (ni ⟨bF,bI,a0,M⟩ f image=((f:Int) % 2 == image)):=fh (by unfold ni;simp only[Tk];cases h:decide ((f:Int) % 2=image) with
   | true=>rw[Ug] at h;rw[h];simp
   | false=>rw[RW] at h;exact(QV.2 h).symm)
  go_enter func165,ntmps165;go_wp2_with(fail);go_ret;exact⟨zo HI.out.symm,gG⟩
 | false=>
  have HI:Hid (ni ⟨bF,bI,a0,I⟩ f image=(image == 0)):=fh (by unfold ni;simp only[Bool.false_eq_true,if_false];cases h:decide (image=0) with
   | true=>rw[Ug] at h;rw[h];rfl
   | false=>rw[RW] at h;exact(QV.2 h).symm)
  go_enter func165,ntmps165;go_wp2_with(fail);go_ret;exact⟨zo HI.out.symm,gG⟩
def nC (lo:Nat)(W:U)(S:Q Nat)(r:Q Value)(x:fL):Prop:=∃ A0 c0 Sc,r = [J C x.Offset,J C x.Item.Op.Code,J C x.Item.Op.Arg,J C x.Item.fH,H x.Item.Start,G A0 x.Item.fB.length c0,J C x.Item.fE,H x.Item.fF]/\
 (zr.sl 3).O W [G A0 x.Item.fB.length c0] x.Item.fB Sc/\(∀ b∈Sc,b∉S/\lo<=b)/\fD x.Offset/\fD x.Item.Op.Code/\fD x.Item.Op.Arg/\fD x.Item.fH/\fD x.Item.fE
theorem nC.fJ {x:fL} (h:nC lo W S r x)(ho:fw S W W')(hS:∀ b∈S',b∈S∨W.heap.size<=b):nC lo W' S' r x:=by
 obtain⟨A0,c0,Sc,h1,h2,h3,h4⟩:=h;have a0:=Ty.ja _ h2;refine⟨A0,c0,Sc,h1,Ty.gD _ h2 (fun k hk=>ho.block k (a0 k hk) (h3 k hk).1),fun b hb=>⟨fun hm=>?_,(h3 b hb).2⟩,h4⟩;rcases hS b hm with h | h
 ·exact(h3 b hb).1 h
 ·have:=a0 b hb;omega
def gT (lo:Nat)(W:U)(S:Q Nat)(rs:Q (Q Value))(xs:Q fL):Prop:=rs.length=xs.length/\∀(i:Nat)(r:Q Value)(x:fL),rs[i]?=Z r->xs[i]?=Z x->nC lo W S r x
theorem gT.nil (lo:Nat)(W:U)(S:Q Nat):gT lo W S [] []:=⟨rfl,fun i r x h=>by simp at h⟩
theorem gT.fJ {lo:Nat}{W W':U}{S S':Q Nat}{rs:Q (Q Value)}{xs:Q fL}(h:gT lo W S rs xs)(ho:fw S W W')(hS:∀ b∈S',b∈S∨W.heap.size<=b):gT lo W' S' rs xs:=⟨h.1,fun i r x h1 h2=>(h.2 i r x h1 h2).fJ ho hS⟩
theorem gT.fx (h:gT lo W S rs xs)(hg:ft W W'):gT lo W' S rs xs:=h.fJ (hg.only _) (fun _ hb=>.inl hb)
theorem gT.snoc {x:fL} (h:gT lo W S rs xs)(hr:nC lo W S r x):gT lo W S (rs++[r]) (xs++[x]):=by
 refine⟨by simp[h.1],fun i r' x' h1 h2=>?_⟩;by_cases hi:i<rs.length
 ·rw[RY hi] at h1
  rw[RY (by rw[<-h.1];exact hi)] at h2;exact h.2 i r' x' h1 h2
 ·have hl:=(QM.1 h1).1
  simp only[QR,Rc,Ru] at hl;have a0:i=rs.length:=by omega
  subst a0;rw[RF (Q8 _),RP] at h1;rw[h.1,RF (Q8 _),RP] at h2;simp only[RA,Rv] at h1 h2;subst h1;subst h2;exact hr
theorem gT.read {lo:Nat}{W:U}{S:Q Nat}{rs:Q (Q Value)}{xs:Q fL}{A:X Ri}{n c:Nat}(h:gT lo W S rs xs)(hH:Has ((mY 8).sl 229) W [G A n c] rs S)(hn:n=xs.length):(tC.sl 229).R W W.heap.size [G A xs.length c] xs:=by
 obtain⟨A',c',h1,h2,h3,h4,h5⟩:=hH.read;injection h1 with h1 _
 injection h1 with e1 e2 e3
 subst e1;subst e3;refine⟨A,c,rfl,by rw[<-h.1];exact h2,h3,h4,fun hp=>?_⟩;obtain⟨g,a3,hA,a1,a0⟩:=h5 (by rw[h.1];exact hp);refine⟨g,a3,hA,a1,fun i x hx=>?_⟩;have a2:=(QM.1 hx).1;have hr:rs[i]?=Z (rs[i]'(by rw[h.1];exact a2)):=QW _;obtain⟨ec,k1,k2⟩:=a0 i _ hr;obtain⟨k1,_,_⟩:=k1;obtain⟨A0,c0,Sc,p1,p2,_,p3,p4,p5,p6,p7⟩:=h.2 i _ x hr hx;refine⟨ec,?_,k2⟩;rw[k1,p1];exact Ly (x:=x) A0 c0 p3 p4 p5 p6 (Ty.read _ p2) p7
theorem gT.only {L:Q Nat} (h:gT lo W S rs xs)(ho:fw L W W')(hL:∀ b∈L,b<lo):gT lo W' S rs xs:=by
 refine⟨h.1,fun i r x h1 h2=>?_⟩;obtain⟨A0,c0,Sc,k1,k2,k3,k4⟩:=h.2 i r x h1 h2;exact⟨A0,c0,Sc,k1,Ty.gD _ k2 (fun k hk=>ho.block k (Ty.ja _ k2 k hk) (fun hm=>by have:=hL k hm;have:=(k3 k hk).2;omega)),k3,k4⟩
theorem Ls (h:l[k]?=Z x)(a:Int):l5 (l.drop k) a=a::l5 (l.drop (k+1)) (a+zL x.Op.Code):=by
 obtain⟨h1,rfl⟩:=QM.1 h;rw[Q6 h1];rfl
theorem PE (h:l[k]?=Z x)(a:Int):mh (l.drop k) a=mh (l.drop (k+1)) (a+zL x.Op.Code):=by
 obtain⟨h1,rfl⟩:=QM.1 h;rw[Q6 h1];rfl
theorem Ll (h:l[k]?=Z x):qS st (l.drop k) k=mG st k x::qS st (l.drop (k+1)) (k+1):=by
 obtain⟨h1,rfl⟩:=QM.1 h;rw[Q6 h1];rfl
theorem ED:∀(l:Q fP)(a:Int),(l5 l a).length=l.length+1
 | [],_=>rfl
 | x::r,a=>by simp[l5,ED r]
theorem Fq:∀(l:Q fP)(a:Int),∀ v∈l5 l a,a<=v/\v<=a+5*(l.length:Int)
 | [],a,v,h=>by simp only[l5,QN] at h;subst h;simp
 | x::r,a,v,h=>by
  simp only[l5] at h;have ho:=zt x.Op.Code;rcases Rp.1 h with rfl | h
  ·simp only[Rc];omega
  ·have:=Fq r _ v h
   simp only[Rc];omega
theorem gT.push {Y:U} {x:fL} (h:gT lo Y S rs xs)(hr:nC lo Y S r x)(hg:ft Y Wa)(hon:fw S Wa W')(hS:∀ b∈S',b∈S∨Wa.heap.size<=b):gT lo W' S' (rs++[r]) (xs++[x]):=((h.snoc hr).fx hg).fJ hon hS
theorem EJ {b:U} (hO:fw S0 a b)(hS:∀ x∈S,x∈S0∨a.heap.size<=x)(hg:ft b Wa)(hon:fw S Wa W'):fw S0 a W':=hO.then ((hg.only S).trans hon) hS
theorem Fo {b:U} (hO:fw S0 a b)(hS:∀ x∈S,x∈S0∨a.heap.size<=x)(hg:ft b Wa)(hS':∀ x∈S',x∈S∨Wa.heap.size<=x):∀ x∈S',x∈S0∨a.heap.size<=x:=fun x hx=>(hS' x hx).elim (hS x) (fun h=>.inr (Rj (Rj hO.size hg.size) h))
theorem IU (w:U)(B:Nat){v:Int}(h:fD v):zr.R w B [J C v] v:=⟨rfl,h.1,h.2⟩
theorem J4 {ag:Nat} {sa s1:Int} (hj:x.Op.Code=10∨x.Op.Code=11)(ha:x.Op.Arg=(ag:Int))(h0:st[k]?=Z sk)(h1:st[ag]?=Z sa)(h2:st[k+1]?=Z s1):mG st k x=⟨sk,⟨⟨x.Op.Code,sa-s1⟩,x.fH,x.Start,x.fB,x.fE,x.fF⟩⟩:=by
 unfold mG;rw[Q5 hj,ha,Ra];simp only[RG,h0,h1,h2,Sq]
theorem J2 (hj:¬ (x.Op.Code=10∨x.Op.Code=11))(h0:st[k]?=Z sk):mG st k x=⟨sk,⟨⟨x.Op.Code,x.Op.Arg⟩,x.fH,x.Start,x.fB,x.fE,x.fF⟩⟩:=by
 unfold mG;rw[QZ hj];simp only[RG,h0,Sq]
theorem OH {xs:Q Int} (h:Has (zr.sl e) W [G A n c] xs S)(h0:0<xs.length):∃ g,A=Z ⟨g,0,D⟩/\g∈S/\g<W.heap.size/\∀(k:Nat)(v:Int),xs[k]?=Z v->QL W ⟨g,k,D⟩=Z (J C v)/\fD v:=by
 obtain⟨v0,a3⟩:∃ v,xs[0]?=Z v:=⟨_,QW h0⟩
 obtain⟨g,_,_,rfl,a1,a2,_⟩:=qt h.1 h.2 a3;refine⟨g,rfl,a1,a2,fun k v hk=>?_⟩;obtain⟨g',el,a4,hA,_,_,_,_,_,hO,_,hc,_⟩:=qt h.1 h.2 hk;injection hA with hA
 injection hA with hA
 subst hA;obtain⟨rfl,b1,b2,_⟩:=hO;have a0:=hc 0 _ rfl;rw[show k*zr.size+0=k from by show k*1+0=k;omega] at a0;exact⟨a0,b1,b2⟩
theorem LJ:(prog.info? 229).map (fun i=>(i.zero,i.size,i.bytes))=Z (Z (.agg #[J C 0,J C 0,J C 0,J C 0,H I,G D 0 0,J C 0,H I]),8,80):=by kernel_rfl
theorem He:gZ prog 182 229 (mY 8) 80:=by
 obtain⟨i0,hi,a0,a1,a2⟩:=SJ LJ;exact⟨underlying182,⟨i0,_,hi,a0,a1,a2,rfl⟩,by decide⟩
def Bd (xs:Q fL)(w:U)(r:Ending)(w':U):Prop:=∃ A c rs S,r=.returned (G A xs.length c)/\Has ((mY 8).sl 229) w' [G A xs.length c] rs S/\gT w.heap.size w' S rs xs/\(∀ b∈S,w.heap.size<=b)/\ft w w'
theorem J5 {a:Int} (h:f<n)(hi:ni b f image=M):mR p b image (n-f) f a=lJ (ki p b f) a++mR p b image (n-(f+1)) (f+1) (mh (ki p b f) a):=by
 rw[show n-f=n-(f+1)+1 from by omega];show (if _ then _ else _)=_;rw[Q5 hi]
theorem Lk {a:Int} (h:f<n)(hi:ni b f image=I):mR p b image (n-f) f a=mR p b image (n-(f+1)) (f+1) a:=by
 rw[show n-f=n-(f+1)+1 from by omega];show (if _ then _ else _)=_;rw[QZ (by rw[hi];simp)]
theorem yx {g:Prop} (f:g:=by
  clear hj
  go_upto_region 22 with(fail)
  refine jT (fun w'=>QL w' ⟨g14,1,D⟩=Z (J C (ag:Int))/\QL w' ⟨gt,ag,D⟩=Z (J C sa)/\QL w' ⟨gt,k+1,D⟩=Z (J C s1)) 14 (by kernel_rfl) (QQ (zc o1) (QQ (zc ta) (zc t1))) (fun hH=>?_)
  have hdr:ft Y Y.drew:=(ft.refl _).drew
  clear o1 ta t1
  generalize Y.drew=wx at hdr hH |-
  obtain⟨o1,ta,t1⟩:=id hH
  have ofx:∀ j,Rb wx ⟨g14,j,D⟩=I:=fun j=>((hdr.only []).frozen ol (by simp) j).trans (of j)
  have olx:g14<wx.heap.size:=QS ol hdr.size
  refine .tk 0 [14] hH ?_
  refine .tk 1 [14] hH ?_
  refine .tk 2 [14] hH ?_
  refine .tk 3 [14] hH ?_
  refine .tk 4 [14] hH ?_
  refine .tk 5 [14] hH ?_
  refine .tk 6 [14] hH ?_
  refine .tk 7 [14] hH ?_
  refine .tk 8 [14] hH ?_
  refine .tk 9 [14] hH ?_
  refine .tk 10 [14] hH ?_
  refine .tk 11 [14] hH ?_
  refine .tk 12 [13,14] hH ?_
  refine .tk 13 [14] hH ?_
  refine fA.last (by kernel_rfl) rfl (by kernel_rfl) (fun K hK=>?_)
  go_simp
  refine hK.out _ _ ?_
  clear hK
  try simp only[lay]
  go_upto_region 23 with(fail)
  have eb2:=(jb (i:=1) (v:=J C (sa-s1)) (cur':=#[J C x.Op.Code,J C (sa-s1),J C x.fH,H x.Start,G A20 x.fB.length c20,J C x.fE,H x.fF]) (zj eb hdr) rfl)
  have hgY:ft wr (wx.setCell ⟨g14,1,D⟩ (J C (sa-s1))):=(hgYa.trans hdr).setRow (p:=⟨g14,1,D⟩) (TD HG14.out) _
  generalize (wx.setCell _ _)=Y2 at eb2 hgY |-
  obtain⟨o0,o1,o2,o3,o4,o5,o6,of,ol⟩:=zS eb2
  have tk:=za hgY tk
  have hgtY:gt<Y2.heap.size:=QS hgtw hgY.size
  have hHY:=hR7.out.fx hgY
  have hPY:=hPR.out.fx hgY
  go_region_held3 (fun w'=>QL w' ⟨g14,0,D⟩=Z (J C x.Op.Code)/\QL w' ⟨g14,1,D⟩=Z (J C (sa-s1))/\QL w' ⟨g14,2,D⟩=Z (J C x.fH)/\QL w' ⟨g14,3,D⟩=Z (H x.Start)/\QL w' ⟨g14,4,D⟩=Z (G A20 x.fB.length c20)/\QL w' ⟨g14,5,D⟩=Z (J C x.fE)/\QL w' ⟨g14,6,D⟩=Z (H x.fF)/\QL w' ⟨gt,k,D⟩=Z (J C sk)) ((repeat' apply QQ) <;> ((repeat (first | with_reducible assumption | with_reducible refine zd ?_ _ _ | with_reducible refine zk ?_ _ | with_reducible refine zc ?_ | with_reducible refine zV ?_ _));done)) (first | (refine zW (L:=rs.length+1) rfl (.tmp 104) (.tmp 111) He (CR 8) (hHY.fx gF) (W1:=w) (B:=0) (ec:=[J C sk,J C x.Op.Code,J C (sa-s1),J C x.fH,H x.Start,G A20 x.fB.length c20,J C x.fE,H x.fF]) (y:=[J C sk,J C x.Op.Code,J C (sa-s1),J C x.fH,H x.Start,G A20 x.fB.length c20,J C x.fE,H x.fF]) ⟨rfl,rfl,by intro u hu;simp only[Rp,RO,SH] at hu;rcases hu with rfl | rfl | rfl | rfl | rfl | rfl | rfl | rfl <;> rfl⟩ rfl rfl rfl (by intro j u hu;simpa[go_sem] using hu) rfl (by omega) (by omega) ?_;intro A8 c8 W8 S8 hon hH8 hS8;have o0:=(hon.cell (g:=g14) (QS ol (ft.size gF)) hg14S _).trans (za gF o0);have o1:=(hon.cell (g:=g14) (QS ol (ft.size gF)) hg14S _).trans (za gF o1);have o2:=(hon.cell (g:=g14) (QS ol (ft.size gF)) hg14S _).trans (za gF o2);have o3:=(hon.cell (g:=g14) (QS ol (ft.size gF)) hg14S _).trans (za gF o3);have o4:=(hon.cell (g:=g14) (QS ol (ft.size gF)) hg14S _).trans (za gF o4);have o5:=(hon.cell (g:=g14) (QS ol (ft.size gF)) hg14S _).trans (za gF o5);have o6:=(hon.cell (g:=g14) (QS ol (ft.size gF)) hg14S _).trans (za gF o6);have tk:=(hon.cell (g:=gt) (QS hgtY (ft.size gF)) hgtS _).trans (za gF tk)))
  all_goals go_wp2_with(fail)
  all_goals go_roundw
  case measure=>exact gH
  case rel=>
   have hrow:nC w.heap.size Y2 S7 [J C sk,J C x.Op.Code,J C (sa-s1),J C x.fH,H x.Start,G A20 x.fB.length c20,J C x.fE,H x.fF] (mG ST k x):=by
    rw[hPL.out]
    exact⟨A20,c20,Sc,rfl,Ty.jg _ hchO hgY,fun b hb=>hScS b hb,hskI,hxcI,hvI,hxlI,hxdI⟩
   exact⟨k+1,rs++[[J C sk,J C x.Op.Code,J C (sa-s1),J C x.fH,H x.Start,G A20 x.fB.length c20,J C x.fE,H x.fF]],acc++[mG ST k x],A8,c8,S8,by rw[QR];rfl,by go_num,by omega,fh (EJ hO7.out hS7.out (ft.trans hgY gF) hon),fh (Fo hO7.out hS7.out (ft.trans hgY gF) hS8),fh (by rw[QR];exact hH8),fh (gT.push hPY hrow gF hon hS8),fh (by rw[<-hA4.out,HAT.out,Rw];rfl),by rw[QR,RD];omega⟩):g:=f
theorem tS {g:Prop} (f:g:=by
  go_enter func124,ntmps124
  go_wp2_with(first | (go_at_call 102;(with_reducible refine(zaD (Ty.up _ hx gF) hll hs).mono ?_);rw[HPB.out];rintro e w1 ⟨rfl,hg1⟩;obtain⟨b0,b1,b2,b3,bf,bl⟩:=iJ (zj (QO w (F #[J C bF,J C bI,H bFo,H bS] 71)) (ft.trans (b:=_) gF hg1))) | (go_at_call 104;(with_reducible refine(HBO.out _).mono ?_);rw[HBB.out];rintro e w2 ⟨rfl,hg2⟩) | (go_at_call 43;(with_reducible refine(gY _ _ _ _).mono ?_);rw[HIB.out];rintro e w3 ⟨rfl,rfl⟩))
  exact QU (v:=G (Z ⟨w.heap.size+1,0,D⟩) 0 0) (by simp[Rd,results124,go_sem]) rfl (show Bd _ w _ _ from by rw[HE.out];exact⟨_,0,[],[w.heap.size+1],rfl,Has.emp (mY 8) (g:=w.heap.size+1) (zj (EOUT.out) (hg1.trans hg2)),gT.nil _ _ _,fun b hb=>by simp only[QN] at hb;omega,(ft.trans (b:=_) gF (hg1.trans hg2))⟩)):g:=f
theorem zlk (hx:(zJ.sl 99).R w w.heap.size [G A p.length c] p)(hll:p.length<=1099511627776)(hs:∀ x∈p,x.fM.length<=1099511627776/\x.Expr.length<=1099511627776) :
  Rh prog 124 #[G A p.length c,.agg #[J C b.Frames,J C b.Inline,H b.Fold,H b.Split],J C image] w (Bd (jV p b image) w):=by
 obtain⟨bF,bI,bFo,bS⟩:=b;have BO:=fun w=>xP (b:=⟨bF,bI,bFo,bS⟩) (w:=w);have HBO:=fh BO;clear BO;have EOUT:Hid (((w.alloc (F #[J C bF,J C bI,H bFo,H bS] 71)).alloc (F #[] 229)).heap[w.heap.size+1]?=Z (F #[] 229 (0,0))):=fh (by have h:=QO (w.alloc (F #[J C bF,J C bI,H bFo,H bS] 71)) (F #[] 229);rw[Rf] at h;exact h);rcases RB (zv p) with a6 | a6
 rotate_left
 ·have HE:Hid (jV p ⟨bF,bI,bFo,bS⟩ image = []):=fh (by unfold jV;rw[QZ (fun h=>by rw[a6] at h;cases h.1)])
  have HPB:=fh a6;have HBB:=fh (rfl:jM ⟨bF,bI,bFo,bS⟩=jM ⟨bF,bI,bFo,bS⟩);have HIB:=fh (rfl:fT image 0 1=fT image 0 1);clear a6;go_enter func124,ntmps124;go_wp2_with(first | (go_at_call 102;(with_reducible refine(zaD (Ty.up _ hx gF) hll hs).mono ?_);rw[HPB.out];rintro e w1 ⟨rfl,hg1⟩;obtain⟨b0,b1,b2,b3,bf,bl⟩:=iJ (zj (QO w (F #[J C bF,J C bI,H bFo,H bS] 71)) (ft.trans (b:=_) gF hg1))) | (go_at_call 104;(with_reducible refine(HBO.out _).mono ?_);rw[HBB.out];rintro e w2 ⟨rfl,hg2⟩) | (go_at_call 43;(with_reducible refine(gY _ _ _ _).mono ?_);rw[HIB.out];rintro e w3 ⟨rfl,rfl⟩));exact QU (v:=G (Z ⟨w.heap.size+1,0,D⟩) 0 0) (by simp[Rd,results124,go_sem]) rfl (show Bd _ w _ _ from by rw[HE.out];exact⟨_,0,[],[w.heap.size+1],rfl,Has.emp (mY 8) (g:=w.heap.size+1) (zj (EOUT.out) hg1),gT.nil _ _ _,fun b hb=>by simp only[QN] at hb;omega,(ft.trans (b:=_) gF hg1)⟩)
 rcases RB (jM ⟨bF,bI,bFo,bS⟩) with af | af
 rotate_left
 ·have HE:Hid (jV p ⟨bF,bI,bFo,bS⟩ image = []):=fh (by unfold jV;rw[QZ (fun h=>by rw[af] at h;cases h.2.1)])
  have HPB:=fh a6;have HBB:=fh af;have HIB:=fh (rfl:fT image 0 1=fT image 0 1);clear a6 af;exact tS
 rcases RB (fT image 0 1) with ad | ad
 rotate_left
 ·have HE:Hid (jV p ⟨bF,bI,bFo,bS⟩ image = []):=fh (by unfold jV;rw[QZ (fun h=>by rw[ad] at h;cases h.2.2)])
  have HPB:=fh a6;have HBB:=fh af;have HIB:=fh ad;clear a6 af ad;exact tS
 have HE:Hid (jV p ⟨bF,bI,bFo,bS⟩ image=mR p ⟨bF,bI,bFo,bS⟩ image ((zp p).length-0) 0 0):=fh (by unfold jV;rw[Q5 ⟨a6,af,ad⟩];rfl);have HPB:=fh a6;have HBB:=fh af;have HIB:=fh ad;have cq:=(qj a6).mj;clear a6 af ad;go_enter func124,ntmps124;go_wp2_with(first | (go_at_call 102;(with_reducible refine(zaD (Ty.up _ hx gF) hll hs).mono ?_);rw[HPB.out];rintro e w1 ⟨rfl,hg1⟩;obtain⟨b0,b1,b2,b3,bf,bl⟩:=iJ (zj (QO w (F #[J C bF,J C bI,H bFo,H bS] 71)) (ft.trans (b:=_) gF hg1))) | (go_at_call 104;(with_reducible refine(HBO.out _).mono ?_);rw[HBB.out];rintro e w2 ⟨rfl,hg2⟩) | (go_at_call 43;(with_reducible refine(gY _ _ _ _).mono ?_);rw[HIB.out];rintro e w3 ⟨rfl,rfl⟩));have bv:ft (w.alloc (F #[J C bF,J C bI,H bFo,H bS] 71)) w2:=(ft.trans (b:=_) gF hg1).trans hg2;have bH:=fh (zj (QO w (F #[J C bF,J C bI,H bFo,H bS] 71)) bv);have bd:ft w w2:=ft.trans (b:=_) gF bv;have br:Has ((mY 8).sl 229) w2 [G (Z ⟨w.heap.size+1,0,D⟩) 0 0] [] [w.heap.size+1]:=Has.emp (mY 8) (zj EOUT.out (hg1.trans hg2));have bJ:=fh br;clear br b0 b1 b2 b3 bf bl;go_loopw [7,8,9] (fun z7 z8 z9 wr=>∃(f:Nat) (a:Int) (rs:Q (Q Value)) (acc:Q fL) (A7:X Ri) (c7:Nat) (S7:Q Nat),z7=G A7 rs.length c7/\z8=J C a/\z9=J C f/\f<=(zp p).length/\0<=a/\a<=12000*(f:Int)/\rs.length<=2400*f/\Hid (ft w wr)/\Hid (wr.heap[w.heap.size]?=Z (F #[J C bF,J C bI,H bFo,H bS] 71 (0,0)))/\Hid (∀ b∈S7,w.heap.size<b)/\Hid (Has ((mY 8).sl 229) wr [G A7 rs.length c7] rs S7)/\Hid (gT w.heap.size wr S7 rs acc)/\Hid (acc++mR p ⟨bF,bI,bFo,bS⟩ image ((zp p).length-f) f a=jV p ⟨bF,bI,bFo,bS⟩ image)) (fun _ _ z9 _=>(zp p).length-(Ry z9).toNat)
 case atStart=>exact⟨0,0,[],[],_,0,_,rfl,rfl,rfl,QX _,SK _,by omega,QX _,fh bd,bH,fh (fun b hb=>by simp only[QN] at hb;omega),bJ,fh (gT.nil _ _ _),fh HE.out.symm⟩
 case round=>
 obtain⟨f,a,aR,a7,aL,aO,ak,rfl,rfl,rfl,hf,bT,cl,c2,a8,ap,aA,aB,ar,b4⟩:=hrel;obtain⟨b0,b1,b2,b3,bf,bl⟩:=iJ ap.out;by_cases hlt:f<(zp p).length
 ·have bW:(f:Int)<((zp p).length:Int):=by omega
  have cv:QP C ((f:Int)+1)=(f:Int)+1:=iw;have bD:=fun w' (hg:ft wr w')=>zbB (Ty.up _ hx (a8.out.trans hg)) hll;obtain⟨ib,ad⟩:∃ ib,ni ⟨bF,bI,bFo,bS⟩ f image=ib:=⟨_,rfl⟩
  have bn:=fun w'=>zsC (b:=⟨bF,bI,bFo,bS⟩) (f:=f) (image:=image) (w:=w') (by omega);have bk:=fh bn;have aN:=fh ad;clear bn ad;cases ib with
  | false=>
   have HAT:=fh (Lk (p:=p) (a:=a) hlt aN.out);go_wp2_with(first | (go_at_call 106;(with_reducible refine(zbB (Ty.up _ hx (a8.out.trans gF)) hll).mono ?_);rintro e w5 ⟨A5,c5,S5,rfl,b6,b7,a2⟩;have b0:=za a2 b0;have b1:=za a2 b1;have b2:=za a2 b2;have b3:=za a2 b3) | (go_at_call 165;(with_reducible refine(bk.out _).mono ?_);rw[aN.out];rintro e w6 ⟨rfl,a5⟩));go_roundw;exact⟨f+1,a,aR,a7,aL,aO,ak,rfl,rfl,by go_num,by omega,bT,by omega,by omega,fh (a8.out.trans (a2.trans a5)),fh (zj ap.out (a2.trans a5)),aA,fh (aB.out.fx (a2.trans a5)),fh (ar.out.fx (a2.trans a5)),fh (by rw[<-b4.out,HAT.out])⟩;exact gH
  | true=>
   have au:=fh (J5 (p:=p) (a:=a) hlt aN.out);obtain⟨am,c0,c1⟩:=BF HPB.out HBB.out hlt;have aT:=fun(W:U) (h:(zJ.sl 99).R W W.heap.size [G A p.length c] p)=>zvn (w:=W) (A:=A) (c:=c) h hs HPB.out HBB.out hlt;generalize ki p ⟨bF,bI,bFo,bS⟩ f=hJ at au am c0 c1 aT;have bE:=fh aT;have aW:=fh am;clear aT am;go_wp2_with(first | (go_at_call 106;(with_reducible refine(zbB (Ty.up _ hx (a8.out.trans gF)) hll).mono ?_);rintro e w5 ⟨A5,c5,S5,rfl,b6,b7,a2⟩;have b0:=za a2 b0;have b1:=za a2 b1;have b2:=za a2 b2;have b3:=za a2 b3) | (go_at_call 165;(with_reducible refine(bk.out _).mono ?_);rw[aN.out];rintro e w6 ⟨rfl,a5⟩;have b0:=za a5 b0;have b1:=za a5 b1;have b2:=za a5 b2;have b3:=za a5 b3) | (go_at_call 166;(with_reducible refine(bE.out _ (Ty.up _ hx (a8.out.trans (a2.trans (a5.trans gF))))).mono ?_);rintro e w7 ⟨ch,aZ,bM,rfl,ay,aC,bu⟩));have aF:ft wr w7:=(a2.trans a5).trans (ft.trans (b:=_) gF bu);have aH:∀ b∈bM,wr.heap.size<=b:=fun b hb=>Rj (a2.trans a5).size (aC b hb);have a3:=fh aF;have av:=fh ay;have ae:=fh aH;obtain⟨wz,bz⟩:∃ z,wr=z:=⟨_,rfl⟩
   rw[bz] at a8 ap aB ar a3 ae;clear b0 b1 b2 b3 bf bl a2 a5 bu b7 b6 ay aC aF aH bD bz;go_loopw [8,11,12] (fun z8 z11 z12 wr=>∃(k:Nat) (a1:Int) (st:Q Int) (aS:X Ri) (ax:Nat) (aY:Q Nat),z8=J C a1/\z11=G aS k ax/\z12=J C k/\k<=hJ.length/\a<=a1/\a1<=a+5*(k:Int)/\Hid (st.length=k)/\Hid (ft w7 wr)/\Hid (Has (zr.sl 3) wr [G aS k ax] st aY)/\Hid (∀ b∈aY,w7.heap.size<=b)/\Hid (st++l5 (hJ.drop k) a1=l5 hJ a)/\Hid (mh (hJ.drop k) a1=mh hJ a)) (fun _ _ z12 _=>hJ.length-(Ry z12).toNat)
   case atStart=>exact⟨0,a,[],_,0,[w7.heap.size],rfl,rfl,rfl,QX _,SK _,by omega,fh rfl,fh gF,fh (Has.emp zr (zj (QO w7 _) gF)),fh (fun b hb=>by simp only[QN] at hb;omega),fh rfl,fh rfl⟩
   case round=>
   obtain⟨k,a1,st,aS,ax,aY,rfl,rfl,rfl,hk,cn,cm,ca,aq,bp,aD,bt,bo⟩:=hrel;by_cases hkl:k<hJ.length
   ·have be:(k:Int)<(hJ.length:Int):=by omega
    have cc:QP C ((k:Int)+1)=(k:Int)+1:=iw;obtain⟨gi,oi,x,A20,c20,rfl,an,aj,y0,_⟩:=Qc av.out.read hkl;have y0:=za aq.out y0;have cr:=zt x.Op.Code;have cu:QP C (a1+zL x.Op.Code)=a1+zL x.Op.Code:=iw;have b9:fD a1:=⟨by omega,by omega⟩
    have bL:=fh (Ls aj a1);have bG:=fh (PE aj a1);clear aj;go_wp2_with(first | (at_builtin;refine zA (L:=k+1) rfl (.tmp 53) (.tmp 55) mg zD (bp.out.fx gF) (W1:=w) (B:=0) (ec:=[J C a1]) (y:=a1) (IU _ _ b9) rfl rfl rfl (by intro j u hu;simpa[go_sem] using hu) rfl (by omega) (by omega) ?_;intro A8 c8 W8 S8 hon hH8 hS8;have y0:=(hon.cell (g:=gi) (QS an (ft.trans aq.out gF).size) (fun hm=>by have h:=aD.out gi hm;omega) _).trans (za gF y0)) | (go_at_call 167;(with_reducible refine(zfT _ _).mono ?_);rintro e w9 ⟨rfl,rfl⟩));go_roundw;exact⟨k+1,a1+zL x.Op.Code,st++[a1],A8,c8,S8,rfl,rfl,by go_num,by omega,by omega,by omega,fh (by rw[QR,ca.out];rfl),fh (hon.fx (aq.out.trans gF) aD.out),fh hH8,fh (fun b hb=>(hS8 b hb).elim (aD.out b) (fun h=>Rj (ft.size (ft.trans aq.out gF)) h)),fh (by rw[<-bt.out,bL.out,Rw];rfl),fh (by rw[<-bo.out,bG.out])⟩;exact gH
   obtain rfl:k=hJ.length:=by omega
   have be:¬ ((hJ.length:Int)<(hJ.length:Int)):=by omega
   have b9:fD a1:=⟨by omega,by omega⟩
   have aX:Hid (st++[a1]=l5 hJ a):=fh (by rw[<-bt.out,Rq];rfl);have aV:Hid (a1=mh hJ a):=fh (by rw[<-bo.out,Rq];rfl);obtain⟨ST,a9⟩:∃ ST,l5 hJ a=ST:=⟨_,rfl⟩
   have aw:Hid (ST.length=hJ.length+1):=fh (by rw[<-a9];exact ED _ _);have bm:Hid (∀ v∈ST,a<=v/\v<=a+5*(hJ.length:Int)):=fh (by rw[<-a9];exact Fq _ _);have bK:Hid (lJ hJ a=qS ST hJ 0):=fh (by rw[<-a9];rfl);rw[a9] at aX;clear a9;go_wp2_with(first | (at_builtin;refine zA (L:=hJ.length+1) rfl (.tmp 66) (.tmp 68) mg zD (bp.out.fx gF) (W1:=w) (B:=0) (ec:=[J C a1]) (y:=a1) (IU _ _ b9) rfl rfl rfl (by intro j u hu;simpa[go_sem] using hu) rfl (by omega) (by omega) ?_;intro A9 c9 w9 S9 aI az bs));have aE:ft w7 w9:=aI.fx (ft.trans aq.out gF) aD.out;have bR:(zr.sl 3).R w9 w9.heap.size [G A9 ST.length c9] ST:=by rw[aw.out,<-aX.out];exact az.read
   have bg:∀ b∈S9,w7.heap.size<=b:=fun b hb=>(bs b hb).elim (aD.out b) (fun h=>Rj (ft.size (ft.trans aq.out gF)) h);rw[aX.out] at az;have aM:=fh aE;have ci:=fh az;have cj:=fh bg;have aG:=fh (av.out.fx aE);have bQ:=fh (aB.out.fx (a3.out.trans aE));have bP:=fh (ar.out.fx (a3.out.trans aE));obtain⟨gt,bN,al,ao,ab⟩:=OH az (by rw[aw.out];omega);subst bN;have aU:=fh ab;have bx:=bg gt al;clear az bg aI bs aE bR ab al;go_loopw [7,13] (fun z7 z13 wr=>∃(k:Nat) (rs:Q (Q Value)) (acc:Q fL) (A7:X Ri) (c7:Nat) (S7:Q Nat),z7=G A7 rs.length c7/\z13=J C k/\k<=hJ.length/\Hid (fw ak w9 wr)/\Hid (∀ b∈S7,b∈ak∨w9.heap.size<=b)/\Hid (Has ((mY 8).sl 229) wr [G A7 rs.length c7] rs S7)/\Hid (gT w.heap.size wr S7 rs acc)/\Hid (acc++qS ST (hJ.drop k) k=a7++lJ hJ a)/\rs.length<=2400*f+k) (fun _ z13 _=>hJ.length-(Ry z13).toNat)
   case atStart=>exact⟨0,aR,a7,aL,aO,ak,rfl,rfl,QX _,fh (fw.refl _ _),fh (fun b hb=>.inl hb),bQ,bP,fh (by rw[bK.out];rfl),by omega⟩
   case round=>
   obtain⟨k,rs,acc,A7,c7,S7,rfl,rfl,hk,hO7,hS7,hR7,hPR,hA4,cs⟩:=hrel;by_cases hkl:k<hJ.length
   ·have be:(k:Int)<(hJ.length:Int):=by omega
    have cc:QP C ((k:Int)+1)=(k:Int)+1:=iw;have aj:hJ[k]?=Z hJ[k]:=QW hkl;generalize hJ[k]=x at aj;obtain⟨gi,ec,Sc,b5,bc,an,_,aK,_,hO,_,aa,_⟩:=qt aG.out.1 aG.out.2 aj;obtain⟨A20,c20,ck,rfl,b8,hxcI,bi,hxlI,ac,hxdI⟩:=Hs hO;subst b8;subst b5;have bj:=aB.out.lt;have cg:=a3.out.size;have ce:=aM.out.size;have cf:=hO7.out.size;have bX:=ae.out gi bc;have bb:gi∉ak:=fun hm=>by have:=bj gi hm;omega
    have ai:gt∉ak:=fun hm=>by have:=bj gt hm;omega
    have hgtw:gt<wr.heap.size:=by omega
    have bh:oT.size=7:=rfl;rw[bh] at aa;have a0:=fun j u (hu:[J C x.Op.Code,J C x.Op.Arg,J C x.fH,H x.Start,G A20 x.fB.length c20,J C x.fE,H x.fF][j]?=Z u)=>(hO7.out.cell an bb _).trans (aa j u hu);have y0:QL wr ⟨gi,k*7,D⟩=Z (J C x.Op.Code):=a0 0 _ rfl;have y1:QL wr ⟨gi,k*7+1,D⟩=Z (J C x.Op.Arg):=a0 1 _ rfl;have y2:QL wr ⟨gi,k*7+2,D⟩=Z (J C x.fH):=a0 2 _ rfl;have y3:QL wr ⟨gi,k*7+3,D⟩=Z (H x.Start):=a0 3 _ rfl;have y4:QL wr ⟨gi,k*7+4,D⟩=Z (G A20 x.fB.length c20):=a0 4 _ rfl;have y5:QL wr ⟨gi,k*7+5,D⟩=Z (J C x.fE):=a0 5 _ rfl;have y6:QL wr ⟨gi,k*7+6,D⟩=Z (H x.fF):=a0 6 _ rfl;have ah:∀ b∈Sc,b∉ak/\b<w9.heap.size:=fun b hb=>⟨fun hm=>by have h1:=bj b hm;have h2:=ae.out b (aK b hb);omega,Ty.ja _ ac b hb⟩;have hchO:(zr.sl 3).O wr [G A20 x.fB.length c20] x.fB Sc:=Ty.gD _ ac (fun b hb=>hO7.out.block b (ah b hb).2 (ah b hb).1);have hScS:∀ b∈Sc,b∉S7/\w.heap.size<=b:=fun b hb=>⟨fun hm=>(hS7.out b hm).elim (ah b hb).1 (fun h=>by have:=(ah b hb).2;omega),by have h1:=ae.out b (aK b hb);have h2:=a8.out.size;omega⟩;have hgtS:gt∉S7:=fun hm=>(hS7.out gt hm).elim ai (fun h=>by omega);obtain⟨sk,aJ⟩:∃ v,ST[k]?=Z v:=⟨_,QW (by rw[aw.out];omega)⟩
    obtain⟨bC,hskI⟩:=aU.out k sk aJ;have tk:=(hO7.out.cell ao ai k).trans bC;have c6:(k:Int)<(hJ.length:Int)+1:=by omega
    have bq:=aW.out k x aj;have HAT:=fh (Ll (st:=ST) aj);have bw:gi<wr.heap.size:=by omega
    clear a0 aa hO ac aj bC;by_cases hj:x.Op.Code=10∨x.Op.Code=11
    ·obtain⟨ag,ba⟩:∃ ag:Nat,x.Op.Arg=(ag:Int):=⟨x.Op.Arg.toNat,by have:=bq.jump hj;omega⟩
     have bV:ag<=hJ.length:=by have:=bq.jump hj;omega
     obtain⟨sa,aQ⟩:∃ v,ST[ag]?=Z v:=⟨_,QW (by rw[aw.out];omega)⟩
     obtain⟨s1,aP⟩:∃ v,ST[k+1]?=Z v:=⟨_,QW (by rw[aw.out];omega)⟩
     have hPL:=fh (J4 hj ba aJ aQ aP);obtain⟨bB,c4⟩:=aU.out ag sa aQ;obtain⟨bA,c3⟩:=aU.out (k+1) s1 aP;have ta:=(hO7.out.cell ao ai ag).trans bB;have t1:=(hO7.out.cell ao ai (k+1)).trans bA;have cp:=bm.out sa (Q9 aQ);have co:=bm.out s1 (Q9 aP);have cw:QP C (sa-s1)=sa-s1:=iw;have hvI:fD (sa-s1):=⟨by omega,by omega⟩
     have bU:(ag:Int)<(hJ.length:Int)+1:=by omega
     have bZ:(k:Int)+1<(hJ.length:Int)+1:=by omega
     have ct:((k:Int)+1).toNat=k+1:=by omega
     have bY:(0:Int)<=(k:Int)+1:=by omega
     rw[ba] at y1;have HJ:=fh hj;clear hj ba bB bA aJ aQ aP;go_upto_region 21 with(fail);have eb:(wr.alloc (F #[J C x.Op.Code,J C (ag:Int),J C x.fH,H x.Start,G A20 x.fB.length c20,J C x.fE,H x.fF] 227)).heap[wr.heap.size]?=Z (F #[J C x.Op.Code,J C (ag:Int),J C x.fH,H x.Start,G A20 x.fB.length c20,J C x.fE,H x.fF] 227 (0,0)):=QO _ _;have hgYa:ft wr (wr.alloc (F #[J C x.Op.Code,J C (ag:Int),J C x.fH,H x.Start,G A20 x.fB.length c20,J C x.fE,H x.fF] 227)):=(ft.refl _).alloc _;obtain⟨g14,a4⟩:∃ g,wr.heap.size=g:=⟨_,rfl⟩
     rw[a4] at eb |-;have HG14:=fh a4;have hg14S:g14∉S7:=fun hm=>by have h:=hR7.out.lt g14 hm;omega
     clear a4;generalize (wr.alloc _)=Y at eb hgYa |-;obtain⟨o0,o1,o2,o3,o4,o5,o6,of,ol⟩:=zS eb;have ta:=za hgYa ta;have t1:=za hgYa t1;rcases HJ.out with hj | hj
     ·have aZ:(x.Op.Code == 10)=M:=Rt.2 hj
      exact yx
     ·have aZ:(x.Op.Code == 10)=I:=QV.2 (by omega)
      have ax:(x.Op.Code == 11)=M:=Rt.2 hj;exact yx
    ·have aZ:(x.Op.Code == 10)=I:=QV.2 (fun h=>hj (.inl h))
     have ax:(x.Op.Code == 11)=I:=QV.2 (fun h=>hj (.inr h));have hPL:=fh (J2 hj aJ);clear hj aJ;go_upto_region 23 with(fail);have eb2:(wr.alloc (F #[J C x.Op.Code,J C x.Op.Arg,J C x.fH,H x.Start,G A20 x.fB.length c20,J C x.fE,H x.fF] 227)).heap[wr.heap.size]?=Z (F #[J C x.Op.Code,J C x.Op.Arg,J C x.fH,H x.Start,G A20 x.fB.length c20,J C x.fE,H x.fF] 227 (0,0)):=QO _ _;have hgY:ft wr (wr.alloc (F #[J C x.Op.Code,J C x.Op.Arg,J C x.fH,H x.Start,G A20 x.fB.length c20,J C x.fE,H x.fF] 227)):=(ft.refl _).alloc _;obtain⟨g14,a4⟩:∃ g,wr.heap.size=g:=⟨_,rfl⟩
     rw[a4] at eb2 |-;have HG14:=fh a4;have hg14S:g14∉S7:=fun hm=>by have h:=hR7.out.lt g14 hm;omega
     clear a4;generalize (wr.alloc _)=Y2 at eb2 hgY |-;obtain⟨o0,o1,o2,o3,o4,o5,o6,of,ol⟩:=zS eb2;have tk:=za hgY tk;have hgtY:gt<Y2.heap.size:=QS hgtw hgY.size;have hHY:=hR7.out.fx hgY;have hPY:=hPR.out.fx hgY;go_region_held3 (fun w'=>QL w' ⟨g14,0,D⟩=Z (J C x.Op.Code)/\QL w' ⟨g14,1,D⟩=Z (J C x.Op.Arg)/\QL w' ⟨g14,2,D⟩=Z (J C x.fH)/\QL w' ⟨g14,3,D⟩=Z (H x.Start)/\QL w' ⟨g14,4,D⟩=Z (G A20 x.fB.length c20)/\QL w' ⟨g14,5,D⟩=Z (J C x.fE)/\QL w' ⟨g14,6,D⟩=Z (H x.fF)/\QL w' ⟨gt,k,D⟩=Z (J C sk)) ((repeat' apply QQ) <;> ((repeat (first | with_reducible assumption | with_reducible refine zd ?_ _ _ | with_reducible refine zk ?_ _ | with_reducible refine zc ?_ | with_reducible refine zV ?_ _));done)) (first | (refine zW (L:=rs.length+1) rfl (.tmp 104) (.tmp 111) He (CR 8) (hHY.fx gF) (W1:=w) (B:=0) (ec:=[J C sk,J C x.Op.Code,J C x.Op.Arg,J C x.fH,H x.Start,G A20 x.fB.length c20,J C x.fE,H x.fF]) (y:=[J C sk,J C x.Op.Code,J C x.Op.Arg,J C x.fH,H x.Start,G A20 x.fB.length c20,J C x.fE,H x.fF]) ⟨rfl,rfl,by intro u hu;simp only[Rp,RO,SH] at hu;rcases hu with rfl | rfl | rfl | rfl | rfl | rfl | rfl | rfl <;> rfl⟩ rfl rfl rfl (by intro j u hu;simpa[go_sem] using hu) rfl (by omega) (by omega) ?_;intro A8 c8 W8 S8 hon hH8 hS8;have o0:=(hon.cell (g:=g14) (QS ol (ft.size gF)) hg14S _).trans (za gF o0);have o1:=(hon.cell (g:=g14) (QS ol (ft.size gF)) hg14S _).trans (za gF o1);have o2:=(hon.cell (g:=g14) (QS ol (ft.size gF)) hg14S _).trans (za gF o2);have o3:=(hon.cell (g:=g14) (QS ol (ft.size gF)) hg14S _).trans (za gF o3);have o4:=(hon.cell (g:=g14) (QS ol (ft.size gF)) hg14S _).trans (za gF o4);have o5:=(hon.cell (g:=g14) (QS ol (ft.size gF)) hg14S _).trans (za gF o5);have o6:=(hon.cell (g:=g14) (QS ol (ft.size gF)) hg14S _).trans (za gF o6);have tk:=(hon.cell (g:=gt) (QS hgtY (ft.size gF)) hgtS _).trans (za gF tk)))
     all_goals go_wp2_with(fail)
     all_goals go_roundw
     case measure=>exact gH
     case rel=>
      have hrow:nC w.heap.size Y2 S7 [J C sk,J C x.Op.Code,J C x.Op.Arg,J C x.fH,H x.Start,G A20 x.fB.length c20,J C x.fE,H x.fF] (mG ST k x):=by
       rw[hPL.out];exact⟨A20,c20,Sc,rfl,Ty.jg _ hchO hgY,fun b hb=>hScS b hb,hskI,hxcI,bi,hxlI,hxdI⟩
      exact⟨k+1,rs++[[J C sk,J C x.Op.Code,J C x.Op.Arg,J C x.fH,H x.Start,G A20 x.fB.length c20,J C x.fE,H x.fF]],acc++[mG ST k x],A8,c8,S8,by rw[QR];rfl,by go_num,by omega,fh (EJ hO7.out hS7.out (ft.trans hgY gF) hon),fh (Fo hO7.out hS7.out (ft.trans hgY gF) hS8),fh (by rw[QR];exact hH8),fh (gT.push hPY hrow gF hon hS8),fh (by rw[<-hA4.out,HAT.out,Rw];rfl),by rw[QR,RD];omega⟩
   ·obtain rfl:k=hJ.length:=by omega
    have be:¬ ((hJ.length:Int)<(hJ.length:Int)):=by omega
    have bO:Hid (acc=a7++lJ hJ a):=fh (by rw[<-hA4.out,Rq];simp[qS]);have cg:=a3.out.size;have ce:=aM.out.size;have cf:=hO7.out.size;have cd:=a8.out.size;go_wp2_with(fail);go_roundw;exact⟨f+1,a1,rs,acc,A7,c7,S7,rfl,rfl,by go_num,by omega,by omega,by omega,by omega,fh (hO7.out.fx (a8.out.trans (a3.out.trans aM.out)) (fun b hb=>UO (aA.out b hb))),fh ((hO7.out.block w.heap.size (by have:=(blt ap.out);omega) (fun hm=>by have:=aA.out _ hm;omega)).trans (zj ap.out (a3.out.trans aM.out))),fh (fun b hb=>(hS7.out b hb).elim (aA.out b) (fun h=>by have:=(blt ap.out);omega)),hR7,hPR,fh (by rw[<-b4.out,au.out,bO.out,aV.out,Rw])⟩;exact gH
 ·obtain rfl:f=(zp p).length:=by omega
  have bW:¬ (((zp p).length:Int)<((zp p).length:Int)):=by omega
  have HQ:Hid (a7=jV p ⟨bF,bI,bFo,bS⟩ image):=fh (by rw[<-b4.out,RP];simp[mR]);go_wp2_with(first | (go_at_call 106;(with_reducible refine(zbB (Ty.up _ hx (a8.out.trans gF)) hll).mono ?_);rintro e w5 ⟨A5,c5,S5,rfl,b6,b7,a2⟩));exact QU (v:=G aL aR.length aO) (by simp[Rd,results124,go_sem]) rfl (show Bd _ w _ _ from by rw[<-HQ.out];exact⟨aL,aO,aR,ak,by rw[ar.out.1],by rw[<-ar.out.1];exact(aB.out.fx a2).fx gF,(ar.out.fx a2).fx gF,fun b hb=>UO (aA.out b hb),(a8.out.trans a2).trans gF⟩)
def pF (p:Q fv)(i:gu)(x:fL):Q fC:=if x.Item.Op.Code=13∨x.Item.Op.Code=15/\kM p x.Item.fH=0 then i.fm++[⟨mc p x.Item.fH,x.Offset,0⟩] else i.fm
theorem Cl (p:Q fv)(i:gu)(x:fL):mU p i x=⟨i.Code++jR x.Item.Op,pO (pF p i x) ((i.Code++jR x.Item.Op).size:Nat)⟩:=rfl
theorem Lr {l:Q fC} {n:Int} (hl:l.length=m+1)(hq:l[m]?=Z q):pO l n=l.set m { q with gK:=n-q.Start }:=by
 have h:l.getLast?=Z q:=by rw[TZ,hl];exact hq
 unfold pO;rw[h];simp only;apply UG;intro j;rw[UF];by_cases hj:m=j
 ·subst hj
  rw[Q5 rfl,Q5 (by omega),RF (by simp;omega)];simp[hl]
 ·rw[QZ hj]
  exact uI
theorem BI {p:Q fv}{xs:Q fL}(ha:∀ x∈xs,qK p x):∀ k,k<=xs.length->∀ s∈(lx p xs k).fm,0<=s.Start/\s.Start<=100000
 | 0,_,s,hs=>by cases hs
 | k+1,h,s,hs=>by
  have hx:xs[k]?=Z xs[k]:=QW (by omega);rw[Co hx,Cl] at hs
  have hk:∀ s∈pF p (lx p xs k) xs[k],0<=s.Start/\s.Start<=100000:=by
   intro s hs;unfold pF at hs;split at hs
   ·rcases Q7.1 hs with hs | hs
    ·exact BI ha k (by omega) s hs
    ·rw[QN] at hs
     subst hs;exact(ha _ (List.getElem_mem _)).off
   ·exact BI ha k (by omega) s hs
  simp only at hs;unfold pO at hs;split at hs
  ·exact hk s hs
  ·rename_i q hq
   rcases Q7.1 hs with hs | hs
   ·exact hk s ((List.dropLast_sublist _).subset hs)
   ·rw[QN] at hs
    subst hs;exact hk q (List.mem_of_getLast? hq)
theorem vZ {o0 o1:Value} (h:W.heap[g]?=Z (F #[o0,o1] e (0,0))) :
  QL W ⟨g,0,D⟩=Z o0/\QL W ⟨g,1,D⟩=Z o1/\(∀ j,Rb W ⟨g,j,D⟩=I)/\g<W.heap.size:=by
 refine⟨?_,?_,fun j=>by simp[Rb,h],(blt h)⟩
 all_goals
  rw[RV W g _ _ _ (0,0) h]
  rfl
theorem Hr {xs:Q fC} (h:Has (ji.sl e) W [G A n c] xs S)(hq:xs[m]?=Z q):∃ g,A=Z ⟨g,0,D⟩/\g∈S/\g<W.heap.size/\(∀ j,Rb W ⟨g,j,D⟩=I)/\QL W ⟨g,m*3+1,D⟩=Z (J C q.Start)/\QL W ⟨g,m*3+2,D⟩=Z (J C q.gK)/\
  ∀ v,fD v->Has (ji.sl e) (W.setCell ⟨g,m*3+2,D⟩ (J C v)) [G A n c] (xs.set m { q with gK:=v }) S/\fw S W (W.setCell ⟨g,m*3+2,D⟩ (J C v)):=by
 obtain⟨g,ec,Sc,rfl,a1,a2,_,_,_,hO,hf,hc,a0,_⟩:=qt h.1 h.2 hq;obtain⟨rfl,rfl,b0,b1,b2⟩:=N1 hO;refine⟨g,rfl,a1,a2,hf,hc 1 _ rfl,hc 2 _ rfl,fun v hv=>?_⟩;have hp:=a0 2 (J C v) { q with gK:=v } (by decide) rfl (K9 (x:={ q with gK:=v }) b0 b1 hv);exact⟨⟨hp.1,h.2⟩,hp.2⟩
def IP (i:gu)(w:U)(r:Ending)(w':U):Prop:=∃ A c S,r=.returned (.agg #[V i.Code,G A i.fm.length c])/\Has (ji.sl 137) w' [G A i.fm.length c] i.fm S/\(∀ b∈S,w.heap.size<=b)/\ft w w'
theorem F0 (p:Q fv)(b:fV)(image:Int):jq p b image=lx p (jV p b image) (jV p b image).length:=by
 unfold jq lx;rw[RX]
theorem zhG (hx:(zJ.sl 99).R w w.heap.size [G A p.length c] p)(hll:p.length<=1099511627776)(hs:∀ x∈p,x.fM.length<=1099511627776/\x.Expr.length<=1099511627776) :
  Rh prog 105 #[G A p.length c,.agg #[J C b.Frames,J C b.Inline,H b.Fold,H b.Split],J C image] w (IP (jq p b image) w):=by
 obtain⟨af,aX,ag⟩:=BT p b image;have bb:=fh (F0 p b image);have aO:=fun(W:U) (h:(zJ.sl 99).R W W.heap.size [G A p.length c] p)=>zlk (w:=W) (A:=A) (c:=c) (b:=b) (image:=image) h hll hs;generalize jV p b image=xs at af aX ag bb aO;have aL:=fh aO;have ak:=fh af;have al:=fh ag;clear aO af ag;have ez:(((w.alloc (F #[J C b.Frames,J C b.Inline,H b.Fold,H b.Split] 71)).alloc (F #[V emp,G D 0 0] 103)).alloc (F #[V emp,G D 0 0] 103)).heap[w.heap.size+1+1]?=Z (F #[V emp,G D 0 0] 103 (0,0)):=by have h:=QO ((w.alloc (F #[J C b.Frames,J C b.Inline,H b.Fold,H b.Split] 71)).alloc (F #[V emp,G D 0 0] 103)) (F #[V emp,G D 0 0] 103);rw[Rf,Rf] at h;exact h
 have be:(((w.alloc (F #[J C b.Frames,J C b.Inline,H b.Fold,H b.Split] 71)).alloc (F #[V emp,G D 0 0] 103)).alloc (F #[V emp,G D 0 0] 103)).heap[w.heap.size+1]?=Z (F #[V emp,G D 0 0] 103 (0,0)):=by have h:=QO (w.alloc (F #[J C b.Frames,J C b.Inline,H b.Fold,H b.Split] 71)) (F #[V emp,G D 0 0] 103);rw[Rf] at h;exact zj h ((ft.refl _).alloc _)
 have EZ:=fh ez;have bn:=fh be;clear ez be;go_enter func105,ntmps105;go_wp2_with(first | (go_at_call 124;(with_reducible refine(aL.out _ (Ty.up _ hx gF)).mono ?_);rintro e w2 ⟨A8,c8,rs,S8,rfl,bi,aE,ae,av⟩));obtain⟨g7,a5⟩:∃ g,w.heap.size+1+1=g:=⟨_,rfl⟩
 obtain⟨g6,ai⟩:∃ g,w.heap.size+1=g:=⟨_,rfl⟩
 simp only[Rf] at aE ae;rw[a5] at aE ae;have az:ft w w2:=ft.trans (b:=_) gF av;have a4:=zj EZ.out av;have a9:=zj bn.out av;rw[a5] at a4;rw[ai] at a9;rw[a5,ai];have bl:=av.size;simp only[Rf] at bl;rw[a5] at bl;have ac:=fh az;have b8:=fh a9;have bc:=fh aE;have aM:=fh bi;have bd:=fh ae;have bB:w.heap.size<g7:=by omega
 have aT:g6≠g7:=by omega
 have bA:g6<g7:=by omega
 have au:w.heap.size<=g6:=by omega
 clear az a9 aE bi ae av a5 ai;go_loopw [9] (fun z9 wr=>∃(k:Nat) (A:X Ri) (c1:Nat) (S1:Q Nat),z9=J C k/\k<=xs.length/\Hid (wr.heap[g7]?=Z (F #[V (lx p xs k).Code,G A (lx p xs k).fm.length c1] 103 (0,0)))/\Hid (Has (ji.sl 137) wr [G A (lx p xs k).fm.length c1] (lx p xs k).fm S1)/\Hid (∀ b∈S1,w2.heap.size<=b)/\Hid (fw [g7] w2 wr)) (fun z9 _=>xs.length-(Ry z9).toNat)
 case atStart=>exact⟨0,D,0,[],rfl,QX _,fh a4,fh (Has.nil _ _ _),fh (fun b hb=>by cases hb),fh (fw.refl _ _)⟩
 case round=>
 obtain⟨k,A,c1,S1,rfl,hk,a4,hH,a1,hO⟩:=hrel;by_cases hkl:k<xs.length
 ·have bG:(k:Int)<(xs.length:Int):=by omega
  have c3:QP C ((k:Int)+1)=(k:Int)+1:=iw;have bx:=(bc.out.only hO.out (fun b hb=>by simp only[QN] at hb;omega)).read (aM.out.fJ hO.out (fun b hb hm=>by simp only[QN] at hm;have:=bd.out b hb;omega)) rfl;obtain⟨g,c6,x,aB,aD,bt,aU,aH,x0,x1,x2,x3,x4,x5,x6,x7,b0,b1,b2,b3,h5,b6⟩:=sN bx hkl;obtain⟨gq,_,_,ap,aW,bE,_⟩:=qt aM.out.1 aM.out.2 (QW (l:=rs) (i:=k) (by rw[bc.out.1];exact hkl));subst bt;injection ap with ap
  injection ap with ap hoff
  subst ap;subst hoff;simp only[Rk] at x0 x1 x2 x3 x4 x5 x6 x7;have bC:=bd.out g aW;have bk:=ak.out x (Q9 aH);obtain⟨bz,bK,bL⟩:=AK al.out k (by omega);obtain⟨_,a3,aj⟩:=AK al.out (k+1) (by omega);have b5:=BI ak.out (k+1) (by omega);have aZ:=Co (p:=p) aH;rw[aZ,Cl] at aj b5 a3;simp only[BA] at a3;have aK:=fh (aZ.trans (Cl p _ x));have aN:=fh b5;have aC:=fh (aj (by omega));have bU:=fh aH;have am:=fh a3;clear aZ b5 aj a3 aH;generalize lx p xs k=im at a4 hH bz bK bL aK aN aC am;simp only[BA] at aC;have aG:ft w wr:=hO.out.fx ac.out (fun b hb=>by simp only[QN] at hb;omega);obtain⟨ln,bj⟩:∃ n:Nat,x.Item.fH=(n:Int):=⟨x.Item.fH.toNat,by have:=bk.line;omega⟩
  have aY:ln<p.length:=by have:=bk.line;omega
  have bI:(ln:Int)<(p.length:Int):=by omega
  obtain⟨gp,op,u,bS,bV,bT,bW,hA,bD,hu,u0,v1,_,_,_,bM,_⟩:=lK hx aY;subst hA;have bJ:mc p x.Item.fH=u.Name:=by rw[bj];exact wK hu
  have bH:kM p x.Item.fH=u.Kind:=by rw[bj];exact xI hu
  have aV:=RE _ _ u0;simp only at aV;go_upto_region 7 with(fail);have eb:(wr.alloc (F #[J C x.Item.Op.Code,J C x.Item.Op.Arg,J C (ln:Int),H x.Item.Start,G aB x.Item.fB.length aD,J C x.Item.fE,H x.Item.fF] 227)).heap[wr.heap.size]?=Z (F #[J C x.Item.Op.Code,J C x.Item.Op.Arg,J C (ln:Int),H x.Item.Start,G aB x.Item.fB.length aD,J C x.Item.fE,H x.Item.fF] 227 (0,0)):=QO _ _;have a2:ft wr (wr.alloc (F #[J C x.Item.Op.Code,J C x.Item.Op.Arg,J C (ln:Int),H x.Item.Start,G aB x.Item.fB.length aD,J C x.Item.fE,H x.Item.fF] 227)):=(ft.refl _).alloc _;obtain⟨a8,ah⟩:∃ g,wr.heap.size=g:=⟨_,rfl⟩
  rw[ah] at eb |-;have bo:=fh ah;have bP:=hO.out.size;have ar:a8≠g7:=by omega
  have ad:a8∉S1:=fun hm=>by have h:=hH.out.lt a8 hm;omega
  have ao:g7∉S1:=fun hm=>by have h:=a1.out g7 hm;omega
  have gS:g∉S1:=fun hm=>by have h:=a1.out g hm;omega
  have bf:gp∉S1:=fun hm=>by have h:=a1.out gp hm;omega
  clear ah;generalize (wr.alloc _)=Y at eb a2 |-;obtain⟨o0,o1,o2,_,_,_,_,_,ol⟩:=zS eb;obtain⟨z0,z1,zf,a0⟩:=vZ (zj a4.out a2);have u0:=za (aG.trans a2) u0;have v1:=za (aG.trans a2) v1;have x0:=za a2 x0;have aU:g<Y.heap.size:=by have:=a2.size;omega
  have ax:gp<Y.heap.size:=by have:=a2.size;omega
  have aQ:=fh (hH.out.fx a2);go_cut [45] from 16 to 90 (fun v wx=>v=H (decide (x.Item.Op.Code=13∨x.Item.Op.Code=15/\u.Kind=0))/\Y=wx)
  case first=>
   by_cases h13:x.Item.Op.Code=13
   ·have bq:(x.Item.Op.Code == 13)=M:=Rt.2 h13
    have HD:=fh (show M=decide (x.Item.Op.Code=13∨x.Item.Op.Code=15/\u.Kind=0) from(QY (.inl h13)).symm);clear h13;go_wp2_with(fail);go_meet;exact⟨by rw[<-HD.out],rfl⟩
   ·have bq:(x.Item.Op.Code == 13)=I:=QV.2 h13
    by_cases h15:x.Item.Op.Code=15
    ·have br:(x.Item.Op.Code == 15)=M:=Rt.2 h15
     by_cases hk0:u.Kind=0
     ·have ck:(u.Kind == 0)=M:=Rt.2 hk0
      have HD:=fh (show M=decide (x.Item.Op.Code=13∨x.Item.Op.Code=15/\u.Kind=0) from(QY (.inr ⟨h15,hk0⟩)).symm);clear h13 h15 hk0;go_wp2_with(fail);go_meet;exact⟨by rw[<-HD.out],rfl⟩
     ·have ck:(u.Kind == 0)=I:=QV.2 hk0
      have HD:=fh (show I=decide (x.Item.Op.Code=13∨x.Item.Op.Code=15/\u.Kind=0) from(QT (fun h=>h.elim h13 (fun h=>hk0 h.2))).symm);clear h13 h15 hk0;go_wp2_with(fail);go_meet;exact⟨by rw[<-HD.out],rfl⟩
    ·have br:(x.Item.Op.Code == 15)=I:=QV.2 h15
     have HD:=fh (show I=decide (x.Item.Op.Code=13∨x.Item.Op.Code=15/\u.Kind=0) from(QT (fun h=>h.elim h13 (fun h=>h15 h.1))).symm);clear h13 h15;go_wp2_with(fail);go_meet;exact⟨by rw[<-HD.out],rfl⟩
  obtain⟨rfl,rfl⟩:=hcut;go_upto_if 45 with(fail)
  go_cut [] from 16 to 90 (fun wx=>∃(A:X Ri) (c1:Nat) (S1:Q Nat),wx.heap[g7]?=Z (F #[V im.Code,G A (pF p im x).length c1] 103 (0,0))/\Has (ji.sl 137) wx [G A (pF p im x).length c1] (pF p im x) S1/\(∀ b∈S1,w2.heap.size<=b)/\fw [g7] w2 wx/\wx.heap[a8]?=Z (F #[J C x.Item.Op.Code,J C x.Item.Op.Arg,J C (ln:Int),H x.Item.Start,G aB x.Item.fB.length aD,J C x.Item.fE,H x.Item.fF] 227 (0,0)))
  case first=>
   rw[<-bH];by_cases hif:x.Item.Op.Code=13∨x.Item.Op.Code=15/\kM p x.Item.fH=0
   ·rw[QY hif]
    have an:Hid (pF p im x=im.fm++[⟨u.Name,x.Offset,0⟩]):=fh (by unfold pF;rw[Q5 hif,bJ]);clear hif;go_upto_region 8 with(fail);refine jT (fun w'=>QL w' ⟨g7,1,D⟩=Z (G A im.fm.length c1)/\QL w' ⟨a8,2,D⟩=Z (J C (ln:Int))/\QL w' ⟨gp,op+ln*4+1,D⟩=Z (V u.Name)/\QL w' ⟨g,k*8,D⟩=Z (J C x.Offset)) 17 (by kernel_rfl) (by((repeat' apply QQ) <;> ((repeat (first | with_reducible assumption | with_reducible refine zd ?_ _ _ | with_reducible refine zk ?_ _ | with_reducible refine zc ?_ | with_reducible refine zV ?_ _));done))) (fun hH=>?_);refine .tq 0 [17] hH ?_;refine .tq 1 [17] hH ?_;refine .tq 2 [17] hH ?_;refine .tq 3 [17] hH ?_;refine .tq 4 [17] hH ?_;refine .tq 5 [17] hH ?_;refine .tq 6 [17] hH ?_;refine .tq 7 [17] hH ?_;refine .tq 8 [17] hH ?_;refine .tq 9 [17] hH ?_;refine .tq 10 [17] hH ?_;refine .tq 11 [17] hH ?_;refine .tq 12 [17] hH ?_;refine .tq 13 [17] hH ?_;refine fA.one (i:=14) (by kernel_rfl) rfl (fun K hK=>?_);go_simp;refine hK.out _ _ (by((repeat' apply QQ) <;> ((repeat (first | with_reducible assumption | with_reducible refine zd ?_ _ _ | with_reducible refine zk ?_ _ | with_reducible refine zc ?_ | with_reducible refine zV ?_ _));done))) (fun hH14=>?_);clear hK hH
    try simp only[lay]
    refine fA.one (i:=15) (by kernel_rfl) rfl (fun K hK=>?_);(refine zW (L:=im.fm.length+1) rfl (.tmp 47) (.tmp 60) Az yS (aQ.out.fx gF) (W1:=w) (B:=0) (ec:=[V u.Name,J C x.Offset,J C 0]) (y:=(⟨u.Name,x.Offset,0⟩:fC)) (EH (x:=(⟨u.Name,x.Offset,0⟩:fC)) bM b0 ⟨by show (_:Int)<=0;omega,by show (0:Int)<=_;omega⟩) rfl rfl rfl (by intro j u hu;simpa[go_sem] using hu) rfl (by omega) (by omega) ?_;intro A8 c8 W8 S8 ab bu ae;have z1:=(ab.cell (g:=g7) (QS a0 (ft.size gF)) ao _).trans (za gF z1);have o2:=(ab.cell (g:=a8) (QS ol (ft.size gF)) ad _).trans (za gF o2);have v1:=(ab.cell (g:=gp) (QS ax (ft.size gF)) bf _).trans (za gF v1);have x0:=(ab.cell (g:=g) (QS aU (ft.size gF)) gS _).trans (za gF x0);have cc:∀ j,Rb W8 ⟨g7,j,D⟩=I:=fun j=>(ab.frozen (g:=g7) (QS a0 (ft.size gF)) ao j).trans ((((show ft Y _ from gF).only []).frozen a0 (by simp) j).trans (zf j));have ce:g7<W8.heap.size:=QS (QS a0 (ft.size gF)) ab.size);refine hK.out _ _ (by((repeat' apply QQ) <;> ((repeat (first | with_reducible assumption | with_reducible refine zd ?_ _ _ | with_reducible refine zk ?_ _ | with_reducible refine zc ?_ | with_reducible refine zV ?_ _));done))) (fun hH1415=>?_);clear hK hH14
    try simp only[lay]
    refine .tq 16 [17] hH1415 ?_;refine fA.last (by kernel_rfl) rfl (by kernel_rfl) (fun K hK=>?_);go_simp;refine hK.out _ _ ?_;clear hK
    try simp only[lay]
    go_wp2_with(fail);go_meet;have b7:fw [g7] W8 (W8.setCell ⟨g7,1,D⟩ (G A8 (im.fm.length+1) c8)):=(fw.refl _ _).setCell (p:=⟨g7,1,D⟩) (by simp) _;have bw:fw [g7] w2 W8:=hO.out.then ((((a2.trans (show ft Y _ from gF)).only S1).trans ab)) (fun b hb=>.inr (a1.out b hb));have aP:g7∉S8:=fun hm=>(ae g7 hm).elim ao (fun h=>absurd (QS a0 (ft.size gF)) (Nat.not_lt.2 h));refine⟨A8,c8,S8,?_,by rw[an.out,QR];exact bu.fJ b7 (fun b hb hm=>by simp at hm;exact aP (hm ▸ hb)),fun b hb=>(ae b hb).elim (a1.out b) (fun h=>Rj (Rj hO.out.size (a2.trans (show ft Y _ from gF)).size) h),bw.trans b7,?_⟩
    ·rw[an.out,QR]
     exact jb (i:=1) (v:=G A8 (im.fm.length+1) c8) (cur':=#[V im.Code,G A8 (im.fm.length+1) c8]) ((ab.block g7 (QS a0 (ft.size gF)) ao).trans (zj (zj a4.out a2) gF)) rfl
    ·exact(b7.block a8 (QS (QS ol (ft.size gF)) ab.size) (by simp;exact ar)).trans ((ab.block a8 (QS ol (ft.size gF)) ad).trans (zj eb gF))
   ·rw[QT hif]
    have an:Hid (pF p im x=im.fm):=fh (QZ hif);clear hif;go_wp2_with(fail);go_meet;exact⟨A,c1,S1,by rw[an.out];exact(zj a4.out a2),by rw[an.out];exact aQ.out,a1.out,hO.out.trans (a2.only _),eb⟩
  case rest=>
   clear z0 z1 zf a0 u0 v1 x0 aQ o0 o1 o2 ol eb ao ad gS bf aU ax;obtain⟨A,c1,S1,a4,hH,a1,hO,eb⟩:=hcut;obtain⟨z0,z1,zf,a0⟩:=vZ a4;obtain⟨o0,o1,_,_,_,_,_,_,_⟩:=zS eb;have ba:=hH;clear hH;have bY:=GF x.Item.Op;have bZ:¬ 9223372036854775807<im.Code.size+(jR x.Item.Op).size:=by omega
   go_upto_region 9 with(fail);refine jT (fun w'=>QL w' ⟨g7,0,D⟩=Z (V im.Code)/\QL w' ⟨a8,0,D⟩=Z (J C x.Item.Op.Code)/\QL w' ⟨a8,1,D⟩=Z (J C x.Item.Op.Arg)) 7 (by kernel_rfl) (QQ (zc z0) (QQ (zc o0) (zc o1))) (fun hH=>?_);have aa:ft wc wc.drew:=(ft.refl _).drew;clear z0 o0 o1;generalize wc.drew=wx at aa hH |-;obtain⟨z0,o0,o1⟩:=id hH;refine .tk 0 [7] hH ?_;refine .tk 1 [7] hH ?_;refine .tk 2 [7] hH ?_;refine .tk 3 [7] hH ?_;refine fA.one (i:=4) (by kernel_rfl) rfl (fun K hK=>?_);go_simp;go_at_call 162;(with_reducible refine(zvs x.Item.Op _).mono ?_);rintro e v1 ⟨rfl,aF⟩;have a6:=aa.trans aF;have bQ:∀ j,Rb v1 ⟨g7,j,D⟩=I:=fun j=>((a6.only []).frozen a0 (by simp) j).trans (zf j);have bR:g7<v1.heap.size:=QS a0 a6.size;have z0:=za aF z0;have o0:=za aF o0;have o1:=za aF o1;refine hK.out _ _ (QQ z0 (QQ o0 o1)) (fun hI=>?_);clear hK hH;have hH:=hI
   try simp only[lay]
   refine .tk 5 [7] hH ?_;refine .tk 6 [7] hH ?_;refine fA.last (by kernel_rfl) rfl (by kernel_rfl) (fun K hK=>?_);go_simp;refine hK.out _ _ ?_;clear hK
   try simp only[lay]
   have b9:=(jb (i:=0) (v:=V (im.Code++jR x.Item.Op)) (cur':=#[V (im.Code++jR x.Item.Op),G A (pF p im x).length c1]) (zj a4 a6) rfl)
   have bh:fw [g7] w2 (v1.setCell ⟨g7,0,D⟩ (V (im.Code++jR x.Item.Op))):=(hO.trans (a6.only _)).setCell (p:=⟨g7,0,D⟩) (by simp) _;have bm:fw [g7] v1 (v1.setCell ⟨g7,0,D⟩ (V (im.Code++jR x.Item.Op))):=(fw.refl _ _).setCell (p:=⟨g7,0,D⟩) (by simp) _;have aq:=(ba.fx a6).fJ bm (fun b hb hm=>by simp only[QN] at hm;have:=a1 b hb;omega);go_upto_region 10 with(fail);clear bm ba z0 z1 zf bR bQ o0 o1 a0 eb a4;generalize (v1.setCell _ _)=W9 at b9 bh aq |-;have aS:(im.Code++jR x.Item.Op).size<=5*k+5:=by rw[RI];omega
   generalize (im.Code++jR x.Item.Op)=cd at b9 aS aK aN aC;obtain⟨m,hm⟩:∃ m,(pF p im x).length=m+1:=⟨(pF p im x).length-1,by have:=aC.out;omega⟩
   obtain⟨q,hq⟩:∃ q,(pF p im x)[m]?=Z q:=⟨_,QW (by omega)⟩
   have b4:=fun n=>Lr (n:=n) hm hq;have c2:0<=q.Start/\q.Start<=100000:=aN.out { q with gK:=(cd.size:Nat)-q.Start } (by rw[b4];exact Q9 (i:=m) (by rw[Tp (by omega)]));have a3:=am.out;rw[hm] at a3;have aJ:=fh (aK.out.trans (by rw[b4]));generalize pF p im x=sy at b9 aq hm hq aJ;rw[hm] at b9 aq;obtain⟨gs,rfl,bF,ay,qf,q1,q2,_⟩:=Hr aq hq;obtain⟨z0,z1,_,a0⟩:=vZ b9;have c5:QP C ((cd.size:Int)-q.Start)=(cd.size:Int)-q.Start:=iw;have c4:QP C ((m:Int)+1-1)=(m:Int):=by rw[Td];exact iw
   have bN:QP C (m:Int)=(m:Int):=iw;have c0:(m:Int)<(m:Int)+1:=by omega
   have HM:=fh hm;have HQ:=fh hq;clear hm hq b4;refine jT (fun w'=>QL w' ⟨g7,0,D⟩=Z (V cd)/\QL w' ⟨g7,1,D⟩=Z (G (Z ⟨gs,0,D⟩) (m+1) c1)/\QL w' ⟨gs,m*3+1,D⟩=Z (J C q.Start)/\QL w' ⟨gs,m*3+2,D⟩=Z (J C q.gK)) 21 (by kernel_rfl) (QQ (zc z0) (QQ (zc z1) (QQ (zc q1) (zc q2)))) (fun hH=>?_);have aa:ft W9 W9.drew:=(ft.refl _).drew;clear z0 z1 q1 q2;generalize W9.drew=wx at aa hH |-;obtain⟨z0,z1,q1,q2⟩:=id hH;have c7:∀ j,Rb wx ⟨gs,j,D⟩=I:=fun j=>((aa.only []).frozen ay (by simp) j).trans (qf j);have ca:gs<wx.heap.size:=QS ay aa.size;refine .tk 0 [21] hH ?_;refine .tk 1 [21] hH ?_;refine .tk 2 [21] hH ?_;refine .tk 3 [21] hH ?_;refine .tk 4 [21] hH ?_;refine .tk 5 [21] hH ?_;refine .tk 6 [21] hH ?_;refine .tk 7 [21] hH ?_;refine .tk 8 [21] hH ?_;refine .tk 9 [21] hH ?_;refine .tk 10 [21] hH ?_;refine .tk 11 [21] hH ?_;refine .tk 12 [21] hH ?_;refine .tk 13 [21] hH ?_;refine .tk 14 [21] hH ?_;refine .tk 15 [21] hH ?_;refine .tk 16 [21] hH ?_;refine .tk 17 [21] hH ?_;refine .tk 18 [21] hH ?_;refine .tk 19 [20,21] hH ?_;refine .tk 20 [21] hH ?_;refine fA.last (by kernel_rfl) rfl (by kernel_rfl) (fun K hK=>?_);go_simp;refine hK.out _ _ ?_;clear hK
   try simp only[lay]
   obtain⟨bX,a7,_,_,_,_,_,aA⟩:=Hr (aq.fx aa) HQ.out;injection a7 with a7
   injection a7 with a7
   subst a7;have hp:=aA ((cd.size:Int)-q.Start) ⟨by omega,by omega⟩;have aR:fw [g7] w2 (wx.setCell ⟨gs,m*3+2,D⟩ (J C ((cd.size:Int)-q.Start))):=(bh.trans (aa.only _)).then hp.2 (fun b hb=>.inr (a1 b hb));have bs:g7∉S1:=fun hm=>by have:=a1 g7 hm;omega
   have bp:=(hp.2.block g7 (QS a0 aa.size) bs).trans (zj b9 aa);have HP:=fh hp.1;clear aA hp;go_wp2_with(fail);go_roundw
   case measure=>exact gH
   case rel=>
    refine⟨k+1,Z ⟨gs,0,D⟩,c1,S1,by go_num,by omega,?_,?_,fh a1,fh aR⟩
    ·rw[aJ.out]
     show Hid (_=Z (F #[V cd,G (Z ⟨gs,0,D⟩) (sy.set m { q with gK:=(cd.size:Nat)-q.Start }).length c1] _ _));rw[Rn,HM.out];exact fh bp
    ·rw[aJ.out]
     show Hid (Has _ _ [G (Z ⟨gs,0,D⟩) (sy.set m { q with gK:=(cd.size:Nat)-q.Start }).length c1] (sy.set m { q with gK:=(cd.size:Nat)-q.Start }) S1);rw[Rn,HM.out];exact HP
 ·obtain rfl:k=xs.length:=by omega
  have bG:¬ ((xs.length:Int)<(xs.length:Int)):=by omega
  obtain⟨z0,z1,zf,a0⟩:=vZ a4.out;have bP:=hO.out.size;have a9:=(hO.out.block g6 (by have:=(blt b8.out);omega) (by simp;exact aT)).trans b8.out;obtain⟨y0,y1,yf,bO⟩:=vZ a9;have aG:ft w wr:=hO.out.fx ac.out (fun b hb=>by simp only[QN] at hb;omega);have aI:=fh a9;clear a9;go_wp2_with(fail);have a9:=jb (i:=1) (v:=G A (lx p xs xs.length).fm.length c1) (cur':=#[V (lx p xs xs.length).Code,G A (lx p xs xs.length).fm.length c1]) (jb (i:=0) (v:=V (lx p xs xs.length).Code) (cur':=#[V (lx p xs xs.length).Code,G D 0 0]) aI.out rfl) rfl;have aw:=(aG.setRow (p:=⟨g6,0,D⟩) au (V (lx p xs xs.length).Code)).setRow (p:=⟨g6,1,D⟩) au (G A (lx p xs xs.length).fm.length c1);have bv:fw [g6] wr ((wr.setCell ⟨g6,0,D⟩ (V (lx p xs xs.length).Code)).setCell ⟨g6,1,D⟩ (G A (lx p xs xs.length).fm.length c1)):=((fw.refl _ _).setCell (p:=⟨g6,0,D⟩) (by simp) _).setCell (p:=⟨g6,1,D⟩) (by simp) _;have bg:=hH.out.fJ bv (fun b hb hm=>by simp only[QN] at hm;have:=a1.out b hb;omega);generalize ((wr.setCell _ _).setCell _ _)=W6 at a9 aw bg |-;obtain⟨r0,r1,_,_⟩:=vZ a9;exact QU (v:=.agg #[V (lx p xs xs.length).Code,G A (lx p xs xs.length).fm.length c1]) (by simp[Rd,results105,go_sem,r0,r1]) rfl (show IP _ w _ _ from by rw[bb.out];exact⟨A,c1,S1,rfl,bg,fun b hb=>by have:=a1.out b hb;have:=ac.out.size;omega,aw⟩)
theorem Li (h:∀ x∈xs,qK p x):∀ x∈xs,x.Item.fB.length<=100:=fun x hx=>Rj (h x hx).chain (by omega)
theorem PO (s:N)(n:Nat):fD (mD s n):=by
 have:=IE s n;exact⟨by omega,by omega⟩
theorem O4 {α:Type} {T:Ty α} {W0:U} {vs:Q Value} {x:α} (h:Has T W vs x S)(hS:∀ b∈S,W0.heap.size<=b):kC T W0 W.heap.size W vs x:=(Has.fresh (w:=W0) h hS).nH
theorem Na {p:Ri} (hne:p.block≠g)(h:QL W ⟨g,i,D⟩=Z u):(W.setCell p v).cell? ⟨g,i,D⟩=Z u:=(World.cell?_setCell_far _ _ _ _ hne).trans h
theorem Eh (w W:U):fU me w W [J C 0,G D 0 0,G D 0 0,G D 0 0,G D 0 0] ⟨0,[],[],[],[]⟩:=
 ⟨_,EF (x:=⟨0,[],[],[],[]⟩) ⟨by decide,by decide⟩ (Has.nil ji 137 W).1 (Has.nil kH 205 W).1 (Has.nil ly 216 W).1 (Has.nil kE 214 W).1,List.nodup_nil,fun b hb=>by cases hb⟩
theorem zpc (hx:(zJ.sl 99).R w w.heap.size [G A p.length c] p)(hll:p.length<=1099511627776)(hs:∀ x∈p,x.fM.length<=1099511627776/\x.Expr.length<=1099511627776)(hnm:∀ x∈p,x.Name.size<=9223372036854775807) :
  Rh prog 75 #[G A p.length c,.agg #[J C b.Frames,J C b.Inline,H b.Fold,H b.Split],J C image] w (yY (oH p b image) w):=by
 obtain⟨bF,bI,a0,bS⟩:=b;have BO:=fun w=>xP (b:=⟨bF,bI,a0,bS⟩) (w:=w);have aC:=fh BO;clear BO;have EZ:Hid (((w.alloc (F #[J C bF,J C bI,H a0,H bS] 71)).alloc (F #[J C 0,G D 0 0,G D 0 0,G D 0 0,G D 0 0] 108)).heap[w.heap.size+1]?=Z (F #[J C 0,G D 0 0,G D 0 0,G D 0 0,G D 0 0] 108 (0,0))):=fh (by have h:=QO (w.alloc (F #[J C bF,J C bI,H a0,H bS] 71)) (F #[J C 0,G D 0 0,G D 0 0,G D 0 0,G D 0 0] 108);rw[Rf] at h;exact h);obtain⟨cc,a5⟩:∃ cc:Bool,(zv p && jM ⟨bF,bI,a0,bS⟩ && fT image 0 1)=cc:=⟨_,rfl⟩
 cases cc with
 | false=>
  have HE:Hid (oH p ⟨bF,bI,a0,bS⟩ image=⟨0,[],[],[],[]⟩):=fh (by unfold oH;rw[QZ (fun h=>by rw[h.1,h.2.1,h.2.2] at a5;cases a5)])
  have aN:∀(pb bb ib:Bool),Hid (zv p=pb)->Hid (jM ⟨bF,bI,a0,bS⟩=bb)->Hid (fT image 0 1=ib)->(pb && bb && ib)=I->Rh prog 75 #[G A p.length c,.agg #[J C bF,J C bI,H a0,H bS],J C image] w (yY (oH p ⟨bF,bI,a0,bS⟩ image) w):=by
   intro pb bb ib an al am h0;cases pb <;> cases bb <;> cases ib <;> (try (exact absurd h0 (by decide)))
   all_goals
    clear h0 a5
    go_enter func75,ntmps75
    go_wp2_with(first | (go_at_call 102;(with_reducible refine(zaD (Ty.up _ hx gF) hll hs).mono ?_);rw[an.out];rintro e w1 ⟨rfl,a4⟩;have av:ft w w1:=ft.trans (b:=_) gF a4;have a3:=fh (zj EZ.out a4);have a2:=fh av;obtain⟨b0,b1,b2,b3,bf,bl⟩:=iJ (zj (QO w (F #[J C bF,J C bI,H a0,H bS] 71)) (ft.trans (b:=_) gF a4));obtain⟨y0,y1,y2,y3,y4,yf,yl⟩:=iY (zj EZ.out a4)) | (go_at_call 104;(with_reducible refine(aC.out _).mono ?_);rw[al.out];rintro e w2 ⟨rfl,a1⟩;have a3:=fh (zj a3.out a1);have a2:=fh (a2.out.trans a1);have y0:=za a1 y0;have y1:=za a1 y1;have y2:=za a1 y2;have y3:=za a1 y3;have y4:=za a1 y4;have yf:=(iY (zj EZ.out (a4.trans a1))).2.2.2.2.2.1) | (go_at_call 43;(with_reducible refine(gY _ _ _ _).mono ?_);rw[am.out];rintro e w3 ⟨rfl,rfl⟩))
    obtain⟨e5,o5⟩:=sX a3.out (J C 0) (G D 0 0) (G D 0 0) (G D 0 0) (G D 0 0)
    have az:=o5.fx a2.out (fun b hb=>by simp only[QN] at hb;omega)
    obtain⟨r0,r1,r2,r3,r4,_,_⟩:=iY e5
    exact QU (v:=.agg #[J C 0,G D 0 0,G D 0 0,G D 0 0,G D 0 0]) (by simp[Rd,results75,go_sem,r0,r1,r2,r3,r4]) rfl (show yY _ w _ _ from by rw[HE.out];exact⟨D,0,D,0,D,0,D,0,rfl,Eh _ _,az⟩)
  exact aN _ _ _ (fh rfl) (fh rfl) (fh rfl) a5
 | true=>
  have ah:zv p=M:=by revert a5;cases zv p <;> simp
  have ax:jM ⟨bF,bI,a0,bS⟩=M:=by revert a5;cases jM ⟨bF,bI,a0,bS⟩ <;> simp
  have aA:fT image 0 1=M:=by revert a5;cases fT image 0 1 <;> simp
  have HE:Hid (oH p ⟨bF,bI,a0,bS⟩ image=⟨mD (jq p ⟨bF,bI,a0,bS⟩ image).Code (jq p ⟨bF,bI,a0,bS⟩ image).Code.size,(jq p ⟨bF,bI,a0,bS⟩ image).fm,oN (jV p ⟨bF,bI,a0,bS⟩ image),rY (jV p ⟨bF,bI,a0,bS⟩ image),ma p (jV p ⟨bF,bI,a0,bS⟩ image)⟩):=fh (by unfold oH;rw[Q5 ⟨ah,ax,aA⟩]);have aT:=(qj ah).len;obtain⟨a7,ae,a8⟩:=BT p ⟨bF,bI,a0,bS⟩ image
  have ac:(jq p ⟨bF,bI,a0,bS⟩ image).Code.size<=72000:=by
   rw[F0];have:=(AK (p:=p) a8 _ (Q8 _)).1;omega
  have au:=fun(W:U) (h:(zJ.sl 99).R W W.heap.size [G A p.length c] p)=>zlk (w:=W) (A:=A) (c:=c) (b:=⟨bF,bI,a0,bS⟩) (image:=image) h hll hs;have aj:=fun(W:U) (h:(zJ.sl 99).R W W.heap.size [G A p.length c] p)=>zhG (w:=W) (A:=A) (c:=c) (b:=⟨bF,bI,a0,bS⟩) (image:=image) h hll hs;generalize jq p ⟨bF,bI,a0,bS⟩ image=im at HE aj ac;generalize jV p ⟨bF,bI,a0,bS⟩ image=xs at HE au a7 ae a8;have ao:=fh au;have ak:=fh aj;have aO:=fh (Li a7);have an:=fh ah;have al:=fh ax;have am:=fh aA;clear au aj a7 a8 ah ax aA a5;go_enter func75,ntmps75;go_upto_region 5 with(first | (go_at_call 102;(with_reducible refine(zaD (Ty.up _ hx gF) hll hs).mono ?_);rw[an.out];rintro e w1 ⟨rfl,a4⟩;have av:ft w w1:=ft.trans (b:=_) gF a4;have a3:=fh (zj EZ.out a4);have a2:=fh av;obtain⟨b0,b1,b2,b3,bf,bl⟩:=iJ (zj (QO w (F #[J C bF,J C bI,H a0,H bS] 71)) (ft.trans (b:=_) gF a4))) | (go_at_call 104;(with_reducible refine(aC.out _).mono ?_);rw[al.out];rintro e w2 ⟨rfl,a1⟩;have a3:=fh (zj a3.out a1);have a2:=fh (a2.out.trans a1);have b0:=za a1 b0;have b1:=za a1 b1;have b2:=za a1 b2;have b3:=za a1 b3) | (go_at_call 43;(with_reducible refine(gY _ _ _ _).mono ?_);rw[am.out];rintro e w3 ⟨rfl,rfl⟩) | (go_at_call 124;(with_reducible refine(ao.out _ (Ty.up _ hx a2.out)).mono ?_);rintro e w4 ⟨A8,c8,rs,S8,rfl,aS,aR,aW,aa⟩;have a3:=fh (zj a3.out aa);have aU:=(blt a3.out);have a2:=fh (a2.out.trans aa);have b0:=za aa b0;have b1:=za aa b1;have b2:=za aa b2;have b3:=za aa b3) | (go_at_call 105;(with_reducible refine(ak.out _ (Ty.up _ hx a2.out)).mono ?_);rintro e w5 ⟨A9,c9,S9,rfl,aH,aL,ay⟩;have a3:=fh (zj a3.out ay);have a2:=fh (a2.out.trans ay)));have aw:=a3.out;have aM:=a2.out;have aQ:=Ty.up _ (aR.read aS rfl) ay;have eb:=QO w5 (F #[V im.Code,G A9 im.fm.length c9] 103);have a6:ft w5 (w5.alloc (F #[V im.Code,G A9 im.fm.length c9] 103)):=(ft.refl _).alloc _;obtain⟨g8,a9⟩:∃ g,w5.heap.size=g:=⟨_,rfl⟩
  rw[a9] at eb |-;have aV:=fh a9;have aX:=(blt aw)
  have ad:w.heap.size+1≠g8:=by omega
  clear a9 b0 b1 b2 b3 bf bl;generalize (w5.alloc _)=Y at eb a6 |-;obtain⟨o0,o1,_,_⟩:=vZ eb;have ap:=fh (Ty.up _ aQ a6);have aP:=fh (Ty.up _ hx (aM.trans a6));go_region_held3 (fun w'=>QL w' ⟨g8,0,D⟩=Z (V im.Code)/\QL w' ⟨g8,1,D⟩=Z (G A9 im.fm.length c9)) ((repeat' apply QQ) <;> ((repeat (first | with_reducible assumption | with_reducible refine Na (by exact ad) ?_ | with_reducible refine zd ?_ _ _ | with_reducible refine zk ?_ _ | with_reducible refine zc ?_ | with_reducible refine zV ?_ _));done)) (first | (go_at_call 125;(with_reducible refine(zhg (i:=im) (A:=A9) (c:=c9) (by omega)).mono ?_);rintro e v1 ⟨rfl,aB⟩;have aq:ft Y v1:=(ft.trans (b:=_) gF aB);have o0:=za (ft.trans (b:=_) gF aB) o0;have o1:=za (ft.trans (b:=_) gF aB) o1) | (go_at_call 126;(with_reducible refine(zs8 (Ty.up _ ap.out (aq.trans gF)) (by omega)).mono ?_);rintro e v2 ⟨A2,c2,S2,rfl,aE,aI,ai⟩;have aD:ft Y v2:=aq.trans (ft.trans (b:=_) gF ai);have o0:=za (ft.trans (b:=_) gF ai) o0;have o1:=za (ft.trans (b:=_) gF ai) o1) | (go_at_call 127;(with_reducible refine(zuJ (Ty.up _ ap.out (aD.trans gF)) (by omega)).mono ?_);rintro e v3 ⟨A3,c3,S3,rfl,aF,aJ,af⟩;have ar:ft Y v3:=aD.trans (ft.trans (b:=_) gF af);have o0:=za (ft.trans (b:=_) gF af) o0;have o1:=za (ft.trans (b:=_) gF af) o1) | (go_at_call 128;(with_reducible refine(zo2 (Ty.up _ aP.out (ar.trans gF)) (by omega) hs hnm (Ty.up _ ap.out (ar.trans gF)) (by omega) aO.out).mono ?_);rintro e v4 ⟨A4,c4,S4,rfl,aG,aK,ab⟩;have ag:ft Y v4:=ar.trans (ft.trans (b:=_) gF ab);have o0:=za (ft.trans (b:=_) gF ab) o0;have o1:=za (ft.trans (b:=_) gF ab) o1;obtain⟨y0,y1,y2,y3,y4,yf,yl⟩:=iY (zj aw (a6.trans ag))))
  all_goals go_wp2_with(fail)
  obtain⟨e5,o5⟩:=sX (zj aw (a6.trans ag)) (J C (mD im.Code im.Code.size)) (G A9 im.fm.length c9) (G A2 (oN xs).length c2) (G A3 (rY xs).length c3) (G A4 (ma p xs).length c4);have az:=o5.fx (aM.trans (a6.trans ag)) (fun b hb=>by simp only[QN] at hb;omega);have zY:=a6.size;have z1:=aq.size;have z2:=ai.size;have z3:=af.size;have z4:=ab.size;have q9:=(aH.fx (a6.trans ag)).fJ o5 (fun b hb hm=>by simp only[QN] at hm;have:=aL b hb;omega);have q2:=(aE.fx (af.trans ab)).fJ o5 (fun b hb hm=>by simp only[QN] at hm;have:=aI b hb;omega);have q3:=(aF.fx ab).fJ o5 (fun b hb hm=>by simp only[QN] at hm;have:=aJ b hb;omega);have q4:=(aG).fJ o5 (fun b hb hm=>by simp only[QN] at hm;have:=aK b hb;omega);obtain⟨r0,r1,r2,r3,r4,_,_⟩:=iY e5
  exact QU (v:=.agg #[J C (mD im.Code im.Code.size),G A9 im.fm.length c9,G A2 (oN xs).length c2,G A3 (rY xs).length c3,G A4 (ma p xs).length c4]) (by simp[Rd,results75,go_sem,r0,r1,r2,r3,r4]) rfl (show yY _ w _ _ from by
   rw[HE.out]
   exact⟨A9,c9,A2,c2,A3,c3,A4,c4,rfl,JM (x:=⟨mD im.Code im.Code.size,im.fm,oN xs,rY xs,ma p xs⟩) (u1:=w4) (m1:=w5.heap.size) (u2:=v1) (m2:=v2.heap.size) (u3:=v2) (m3:=v3.heap.size) (u4:=v3) (m4:=v4.heap.size) (PO _ _) ⟨S9,q9.1,q9.2,fun b hb=>⟨aL b hb,aH.lt b hb⟩⟩ ⟨S2,q2.1,q2.2,fun b hb=>⟨aI b hb,aE.lt b hb⟩⟩ ⟨S3,q3.1,q3.2,fun b hb=>⟨aJ b hb,aF.lt b hb⟩⟩ ⟨S4,q4.1,q4.2,fun b hb=>⟨aK b hb,aG.lt b hb⟩⟩ (by omega) (by omega) (by omega) (by omega) (.inl (by omega)) (.inl (by omega)) (.inl (by omega)) (.inl (by omega)) (.inl (by omega)) (.inl (by omega)),az⟩)
end Go.Proofs.YthgbglbaemelhaaGreat
