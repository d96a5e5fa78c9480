/-
  PART.
-/
import Derived.Test.YtiihkapmggfjkaaGreatM32LawMakeDebug
set_option linter.unusedVariables false
set_option linter.unusedSimpArgs false
set_option maxRecDepth 100000
set_option maxHeartbeats 8000000
namespace Go.Proofs.YtiihkapmggfjkaaGreat
open Value renaming slice->J,int->F,bool->X
open IntKind renaming i64->I,wrap->Ll
open Option renaming none->V,some->H
open Bool renaming false->U,true->M
open Go renaming World->N,results->Ly,Value->LA,Calls->LR,yielded->NA
open World renaming cell?->Lg
open List renaming getElem?_cons_zero->Mf
open Region renaming wanted->MI,ready->MK,Mode->Nz,noSelect->ND,free->Oq
open Tryz
open Go.RowKit
variable {L:Q Nat}{P:ig}{W:N}{fs:Q Int}{g:Int}{i:Nat}{m:fW}{s:fL}{x:fG}
theorem CF {v:Int}:∀(l:Q Int)(i n:Nat),l[n]?=H v->(∀ j,j<n->l[j]?≠H v)->ja l v i=((i+n:Nat):Int)
 | [],_,_,h,_=>by simp at h
 | x::r,i,0,h,_=>by
  simp only[Mf,Mg] at h;unfold ja;rw[Lu h.symm,Nat.add_zero]
 | x::r,i,n+1,h,hn=>by
  have h0:=hn 0 (by omega);simp only[Mf,ne_eq,Mg] at h0;unfold ja;rw[Lt (fun e=>h0 e.symm),CF r (i+1) n (by simpa using h) (fun j hj=>by have:=hn (j+1) (by omega);simpa using this),show i+1+n=i+(n+1) from by omega]
theorem GP {p:Q fG} (hx:p[i]?=H x)(h0:x.Kind=0):ja (zk p) ((i:Nat):Int) 0=nL p (i:Int):=by
 obtain⟨n,h1,h2⟩:=FJ hx h0;rw[h1,CF (zk p) 0 n h2 (fun j hj he=>?_),Mb];have a0:=yU p 0;rw[List.pairwise_iff_getElem] at a0;obtain⟨a1,a2⟩:=Lh.1 h2;obtain⟨b1,b2⟩:=Lh.1 he;have h3:=a0 j n b1 a1 hj;have h4:(iS p 0)[j]=(i:Int):=b2;have h5:(iS p 0)[n]=(i:Int):=a2;omega
theorem zoG (h:jI P m fs W L)(hR:kX P)(hx:P.E.p[i]?=H x)(h0:x.Kind=0) :
  LR prog 270 #[.pointer (H ⟨P.g,0,V⟩),F I i] W fun r W'=>r=.returned (F I (nL P.E.p i))/\fF W W':=by
 have a0:=h.iX.2.2.2.2;have a4:=zc4 (hR.up a0) hR.hl;have a2:=fE (GP hx h0);have a1:Hid ((zk P.E.p).length<=6):=fE hR.env.pc.ki;obtain⟨FL,a3⟩:∃ FL,zk P.E.p=FL:=⟨_,rfl⟩
 rw[a3] at a4 a2 a1;clear a3;obtain⟨Ai,ci,Af,cf,z0,z2,z5,z6,z7,z8,z9,a8,zf,zl⟩:=h.cells;clear z2 z5 z6 z7 z8 z9 a8 zf hx h0;go_enter func270,ntmps270;go_wp2_with(first | (go_at_call 105;(with_reducible refine a4.mono ?_);rintro e1 v1 ⟨AF,cF,SF,rfl,a5,a9,a6⟩) | (go_at_call 192;(with_reducible refine(zll (Ty.up _ a5.read gF) (by have:=a1.out;omega)).mono ?_);rintro e2 v2 ⟨rfl,a7⟩));exact Ln (v:=F I (ja FL (i:Int) 0)) (by simp[Ly,results270,go_sem]) rfl ⟨by rw[a2.out],a6.trans (fF.trans (b:=_) gF (a7.trans gF))⟩
theorem Gk {E:gd} (h:fs.length=s.chain.length+1):zT E fs m g=(decide ((s.chain.length:Int)<E.inl) && (!(fs.any fun y=>decide (y=g)) && (decide (zJ E.p g-g<=9) && decide ((m.items.length:Int)<200)))):=by
 unfold zT;rw[h,show (((s.chain.length+1:Nat):Int)-1)=(s.chain.length:Int) from by omega];cases decide ((s.chain.length:Int)<E.inl) <;> cases decide (zJ E.p g-g<=9) <;> cases decide ((m.items.length:Int)<200) <;> cases (fs.any fun y=>decide (y=g)) <;> rfl
theorem zoN {T:gT} {Z:iM} {v7:LA} (h:jI P m fs W L)(hR:kX P)(hS:iU T Z s v7 W L)(hfs:fs.length=s.chain.length+1)(hfl:fs.length<=100)(hln:m.items.length<=100000)(hg:0<=g/\g<=1000) :
  LR prog 268 #[.pointer (H ⟨P.g,0,V⟩),.pointer (H ⟨Z.gs,0,V⟩),F I g] W fun r W'=>r=.returned (X (zT P.E fs m g))/\fF W W':=by
 have aa:=h.iX.2.2.2.2;have hp:=hR.up aa;have hl:=hR.hl;have ab:=hR.env.pc.len;obtain⟨e,he⟩:∃ e,zJ P.E.p g=e:=⟨_,rfl⟩
 have ac : -1<=e/\e<=60:=by
  rcases po P.E.p g with h1 | ⟨a,e',h1,h2,h3⟩
  ·omega
  ·have:=h3.len;omega
 have HE:=fE he;have a6:=fE (Gk (E:=P.E) (m:=m) (g:=g) hfs);rw[he] at a6;obtain⟨cn,a9⟩:∃ cn,(fs.any fun y=>decide (y=g))=cn:=⟨_,rfl⟩
 rw[a9] at a6;have a7:=fE a9;clear he a9 hfs;obtain⟨q0,q1,q2,q3,q4,q5,q6,q7,qf,ql⟩:=jA hS.box;obtain⟨Ai,ci,Si,Af,cf,Sf,hB,rfl⟩:=h;obtain⟨z0,z1,z2,z3,z4,z5,z6,z7,z8,z9,a0,zf,zl⟩:=oX hB.box;have a8:=fE hB.ins.read;have ad:Ll I (e-g)=e-g:=kt (by omega);clear q0 q1 q2 q3 q4 q6 q7 qf z1 z3 z4 z5 z6 z7 z9 zf hS hB;by_cases c1:(s.chain.length:Int)<P.E.inl
 rotate_left
 ·have HF:Hid (zT P.E fs m g=U):=fE (by rw[a6.out,LK c1];rfl)
  have d1:decide ((s.chain.length:Int)<P.E.inl)=U:=LK c1;clear c1;go_enter func268,ntmps268;go_wp2_with(fail);go_quiet (fail);go_wp2_with(fail);exact Ln (v:=X U) (by simp[Ly,results268,go_sem]) rfl ⟨by rw[HF.out],gF⟩
 have d1:decide ((s.chain.length:Int)<P.E.inl)=M:=LN c1;cases cn with
 | true=>
  have HF:Hid (zT P.E fs m g=U):=fE (by rw[a6.out];simp);clear c1;go_enter func268,ntmps268;go_upto_region 1 with(fail);refine kC (fun w'=>Lg w' ⟨P.g,0,V⟩=H (J P.A P.E.p.length P.c)/\Lg w' ⟨P.g,2,V⟩=H (F I P.E.inl)/\Lg w' ⟨P.g,8,V⟩=H (J Ai m.items.length ci)/\Lg w' ⟨P.g,10,V⟩=H (J Af fs.length cf)/\Lg w' ⟨Z.gs,5,V⟩=H (J T.Ac s.chain.length T.cc)) 39 (by kernel_rfl) (Ls (zb z0) (Ls (zb z2) (Ls (zb z8) (Ls (zb a0) (zb q5))))) (fun hH=>?_);have a4:fF W W.drew:=(fF.refl _).drew;clear z0 z2 z8 a0 q5;generalize W.drew=wx at a4 hH |-;obtain⟨z0,z2,z8,a0,q5⟩:=id hH;refine .tk 0 [39] hH ?_;refine .tk 1 [39] hH ?_;refine .tk 2 [39] hH ?_;refine .tk 3 [39] hH ?_;refine .tk 4 [39] hH ?_;refine .tk 5 [39] hH ?_;refine .tk 6 [39] hH ?_;refine .tk 7 [39] hH ?_;refine .tk 8 [39] hH ?_;refine .tk 9 [39] hH ?_;refine .tk 10 [39] hH ?_;refine .tk 11 [39] hH ?_;refine .tk 12 [39] hH ?_;refine .tk 13 [39] hH ?_;refine .tk 14 [39] hH ?_;refine .tk 15 [39] hH ?_;refine .tk 16 [39] hH ?_;refine fX.one (i:=17) (by kernel_rfl) rfl (fun Le hK=>?_);go_simp;go_at_call 111;(with_reducible refine(vB (Ty.up _ a8.out a4) (by omega)).mono ?_);rw[a7.out];rintro e v1 ⟨rfl,a1⟩;have a2:=a4.trans a1;have z0:=za a1 z0;have z2:=za a1 z2;have z8:=za a1 z8;have a0:=za a1 a0;have q5:=za a1 q5;refine hK.out _ _ (Ls z0 (Ls z2 (Ls z8 (Ls a0 q5)))) (fun hI=>?_);clear hK hH;have hH:=hI
  try simp only[lay]
  refine .tk 18 [39] hH ?_;refine .tk 19 [39] hH ?_;refine .tk 20 [39] hH ?_;refine .sk 21 [39] hH ?_;refine .sk 22 [39] hH ?_;refine .sk 23 [39] hH ?_;refine .sk 24 [39] hH ?_;refine .sk 25 [39] hH ?_;refine .sk 27 [39] hH ?_;refine .sk 26 [39] hH ?_;refine .sk 28 [39] hH ?_;refine .sk 29 [39] hH ?_;refine .tk 30 [39] hH ?_;refine .tk 31 [39] hH ?_;refine .sk 32 [39] hH ?_;refine .sk 33 [39] hH ?_;refine .sk 34 [39] hH ?_;refine .sk 35 [39] hH ?_;refine .sk 36 [39] hH ?_;refine .sk 37 [39] hH ?_;refine .tk 38 [39] hH ?_;refine fX.last (by kernel_rfl) rfl (by kernel_rfl) (fun Le hK=>?_);go_simp;refine hK.out _ _ ?_;clear hK
  try simp only[lay]
  go_wp2_with(fail);exact Ln (v:=X U) (by simp[Ly,results268,go_sem]) rfl ⟨by rw[HF.out],a2.trans gF⟩
 | false=>
  by_cases c3:e-g<=9
  ·have d3:decide (e-g<=9)=M:=LN c3
   have HF:Hid (zT P.E fs m g=decide ((m.items.length:Int)<200)):=fE (by rw[a6.out,d1,d3];rfl);clear c1;go_enter func268,ntmps268;go_upto_region 1 with(fail);refine kC (fun w'=>Lg w' ⟨P.g,0,V⟩=H (J P.A P.E.p.length P.c)/\Lg w' ⟨P.g,2,V⟩=H (F I P.E.inl)/\Lg w' ⟨P.g,8,V⟩=H (J Ai m.items.length ci)/\Lg w' ⟨P.g,10,V⟩=H (J Af fs.length cf)/\Lg w' ⟨Z.gs,5,V⟩=H (J T.Ac s.chain.length T.cc)) 39 (by kernel_rfl) (Ls (zb z0) (Ls (zb z2) (Ls (zb z8) (Ls (zb a0) (zb q5))))) (fun hH=>?_);have a4:fF W W.drew:=(fF.refl _).drew;clear z0 z2 z8 a0 q5;generalize W.drew=wx at a4 hH |-;obtain⟨z0,z2,z8,a0,q5⟩:=id hH;refine .tk 0 [39] hH ?_;refine .tk 1 [39] hH ?_;refine .tk 2 [39] hH ?_;refine .tk 3 [39] hH ?_;refine .tk 4 [39] hH ?_;refine .tk 5 [39] hH ?_;refine .tk 6 [39] hH ?_;refine .tk 7 [39] hH ?_;refine .tk 8 [39] hH ?_;refine .tk 9 [39] hH ?_;refine .tk 10 [39] hH ?_;refine .tk 11 [39] hH ?_;refine .tk 12 [39] hH ?_;refine .tk 13 [39] hH ?_;refine .tk 14 [39] hH ?_;refine .tk 15 [39] hH ?_;refine .tk 16 [39] hH ?_;refine fX.one (i:=17) (by kernel_rfl) rfl (fun Le hK=>?_);go_simp;go_at_call 111;(with_reducible refine(vB (Ty.up _ a8.out a4) (by omega)).mono ?_);rw[a7.out];rintro e v1 ⟨rfl,a1⟩;have a2:=a4.trans a1;have z0:=za a1 z0;have z2:=za a1 z2;have z8:=za a1 z8;have a0:=za a1 a0;have q5:=za a1 q5;refine hK.out _ _ (Ls z0 (Ls z2 (Ls z8 (Ls a0 q5)))) (fun hI=>?_);clear hK hH;have hH:=hI
   try simp only[lay]
   refine .tk 18 [39] hH ?_;refine .tk 19 [39] hH ?_;refine .tk 20 [39] hH ?_;refine .tk 21 [39] hH ?_;refine .tk 22 [39] hH ?_;refine .tk 23 [39] hH ?_;refine .tk 24 [39] hH ?_;refine .tk 25 [39] hH ?_;refine .tk 27 [39] hH ?_;refine fX.one (i:=26) (by kernel_rfl) rfl (fun Le hK=>?_);go_simp;go_at_call 107;(with_reducible refine(za2 (Ty.up _ hp a2) hl).mono ?_);rw[HE.out];rintro e v2 ⟨rfl,a3⟩;have a5:=a2.trans a3;have z0:=za a3 z0;have z2:=za a3 z2;have z8:=za a3 z8;have a0:=za a3 a0;have q5:=za a3 q5;refine hK.out _ _ (Ls z0 (Ls z2 (Ls z8 (Ls a0 q5)))) (fun hI=>?_);clear hK hH;have hH:=hI
   try simp only[lay]
   refine .tk 28 [39] hH ?_;refine .tk 29 [39] hH ?_;refine .tk 30 [39] hH ?_;refine .tk 31 [39] hH ?_;refine .tk 32 [39] hH ?_;refine .tk 33 [39] hH ?_;refine .tk 34 [39] hH ?_;refine .tk 35 [39] hH ?_;refine .tk 36 [39] hH ?_;refine .tk 37 [39] hH ?_;refine .tk 38 [39] hH ?_;refine fX.last (by kernel_rfl) rfl (by kernel_rfl) (fun Le hK=>?_);go_simp;refine hK.out _ _ ?_;clear hK
   try simp only[lay]
   go_wp2_with(fail);exact Ln (v:=X (decide ((m.items.length:Int)<200))) (by simp[Ly,results268,go_sem]) rfl ⟨by rw[HF.out],a5.trans gF⟩
  ·have d3:decide (e-g<=9)=U:=LK c3
   have HF:Hid (zT P.E fs m g=U):=fE (by rw[a6.out,d3];simp);clear c1;go_enter func268,ntmps268;go_upto_region 1 with(fail);refine kC (fun w'=>Lg w' ⟨P.g,0,V⟩=H (J P.A P.E.p.length P.c)/\Lg w' ⟨P.g,2,V⟩=H (F I P.E.inl)/\Lg w' ⟨P.g,8,V⟩=H (J Ai m.items.length ci)/\Lg w' ⟨P.g,10,V⟩=H (J Af fs.length cf)/\Lg w' ⟨Z.gs,5,V⟩=H (J T.Ac s.chain.length T.cc)) 39 (by kernel_rfl) (Ls (zb z0) (Ls (zb z2) (Ls (zb z8) (Ls (zb a0) (zb q5))))) (fun hH=>?_);have a4:fF W W.drew:=(fF.refl _).drew;clear z0 z2 z8 a0 q5;generalize W.drew=wx at a4 hH |-;obtain⟨z0,z2,z8,a0,q5⟩:=id hH;refine .tk 0 [39] hH ?_;refine .tk 1 [39] hH ?_;refine .tk 2 [39] hH ?_;refine .tk 3 [39] hH ?_;refine .tk 4 [39] hH ?_;refine .tk 5 [39] hH ?_;refine .tk 6 [39] hH ?_;refine .tk 7 [39] hH ?_;refine .tk 8 [39] hH ?_;refine .tk 9 [39] hH ?_;refine .tk 10 [39] hH ?_;refine .tk 11 [39] hH ?_;refine .tk 12 [39] hH ?_;refine .tk 13 [39] hH ?_;refine .tk 14 [39] hH ?_;refine .tk 15 [39] hH ?_;refine .tk 16 [39] hH ?_;refine fX.one (i:=17) (by kernel_rfl) rfl (fun Le hK=>?_);go_simp;go_at_call 111;(with_reducible refine(vB (Ty.up _ a8.out a4) (by omega)).mono ?_);rw[a7.out];rintro e v1 ⟨rfl,a1⟩;have a2:=a4.trans a1;have z0:=za a1 z0;have z2:=za a1 z2;have z8:=za a1 z8;have a0:=za a1 a0;have q5:=za a1 q5;refine hK.out _ _ (Ls z0 (Ls z2 (Ls z8 (Ls a0 q5)))) (fun hI=>?_);clear hK hH;have hH:=hI
   try simp only[lay]
   refine .tk 18 [39] hH ?_;refine .tk 19 [39] hH ?_;refine .tk 20 [39] hH ?_;refine .tk 21 [39] hH ?_;refine .tk 22 [39] hH ?_;refine .tk 23 [39] hH ?_;refine .tk 24 [39] hH ?_;refine .tk 25 [39] hH ?_;refine .tk 27 [39] hH ?_;refine fX.one (i:=26) (by kernel_rfl) rfl (fun Le hK=>?_);go_simp;go_at_call 107;(with_reducible refine(za2 (Ty.up _ hp a2) hl).mono ?_);rw[HE.out];rintro e v2 ⟨rfl,a3⟩;have a5:=a2.trans a3;have z0:=za a3 z0;have z2:=za a3 z2;have z8:=za a3 z8;have a0:=za a3 a0;have q5:=za a3 q5;refine hK.out _ _ (Ls z0 (Ls z2 (Ls z8 (Ls a0 q5)))) (fun hI=>?_);clear hK hH;have hH:=hI
   try simp only[lay]
   refine .tk 28 [39] hH ?_;refine .tk 29 [39] hH ?_;refine .tk 30 [39] hH ?_;refine .tk 31 [39] hH ?_;refine .sk 32 [39] hH ?_;refine .sk 33 [39] hH ?_;refine .sk 34 [39] hH ?_;refine .sk 35 [39] hH ?_;refine .sk 36 [39] hH ?_;refine .sk 37 [39] hH ?_;refine .tk 38 [39] hH ?_;refine fX.last (by kernel_rfl) rfl (by kernel_rfl) (fun Le hK=>?_);go_simp;refine hK.out _ _ ?_;clear hK
   try simp only[lay]
   go_wp2_with(fail);exact Ln (v:=X U) (by simp[Ly,results268,go_sem]) rfl ⟨by rw[HF.out],a5.trans gF⟩
end Go.Proofs.YtiihkapmggfjkaaGreat
