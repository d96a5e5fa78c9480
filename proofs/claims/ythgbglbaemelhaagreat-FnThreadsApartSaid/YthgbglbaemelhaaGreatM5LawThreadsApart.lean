/-
  PART.
-/
import Derived.Test.YthgbglbaemelhaaGreatM4LawThreadsApart
set_option linter.unusedVariables false
set_option linter.unusedSimpArgs false
set_option maxRecDepth 100000
set_option maxHeartbeats 8000000
namespace Go.Proofs.YthgbglbaemelhaaGreat
open Value renaming slice->G,int->J,bool->H
open IntKind renaming i64->Z,wrap->Rg
open Option renaming none->C,some->D
open Obj renaming cells->F
open Bool renaming false->I,true->M
open Go renaming World->U,Calls->RD,Addr->RJ
open World renaming cell?->Rb
open _root_.Int renaming toNat_natCast->Ry
open List renaming replicate->RN,getElem?_cons_zero->RW,cons_append->TQ,range'->Ui
open RowKit renaming intOf->RS
open Tryz
open Go.RowKit
variable {A0 A1 A2 A3:X RJ}{c0 c1 c2 c3 e i k:Nat}{un:Q N}{m:fv}{p q:Q fw}{s:N}{w:U}{x y:fw}
def Mo (x:fO)(w:U)(r:Ending)(w':U):Prop:=∃ A0 c0 A1 c1 A2 c2 A3 c3,r=.returned (.agg #[G A0 x.fk.fo.length c0,G A1 x.fk.ft.length c1,G A2 x.fk.ii.length c2,G A3 x.fq.length c3,J Z x.fR,J Z x.EQ,J Z x.ws])/\fU nC w w' [G A0 x.fk.fo.length c0,G A1 x.fk.ft.length c1,G A2 x.fk.ii.length c2,G A3 x.fq.length c3,J Z x.fR,J Z x.EQ,J Z x.ws] x/\fu w w'
theorem yY {x:fO} {S0:Q Nat} {S1:Q Nat} (h0:kY.O w [G A0 x.fk.fo.length c0,G A1 x.fk.ft.length c1,G A2 x.fk.ii.length c2] x.fk S0)(h1:(zG.sl 41).O w [G A3 x.fq.length c3] x.fq S1)(h2:fE x.fR)(h3:fE x.EQ)(h4:fE x.ws):nC.O w [G A0 x.fk.fo.length c0,G A1 x.fk.ft.length c1,G A2 x.fk.ii.length c2,G A3 x.fq.length c3,J Z x.fR,J Z x.EQ,J Z x.ws] x (S0++S1):=by
 have h:nC.O w [G A0 x.fk.fo.length c0,G A1 x.fk.ft.length c1,G A2 x.fk.ii.length c2,G A3 x.fq.length c3,J Z x.fR,J Z x.EQ,J Z x.ws] x (S0++(S1++([]++([]++[])))):=⟨[G A0 x.fk.fo.length c0,G A1 x.fk.ft.length c1,G A2 x.fk.ii.length c2],[G A3 x.fq.length c3,J Z x.fR,J Z x.EQ,J Z x.ws],S0,(S1++([]++([]++[]))),rfl,rfl,h0,⟨[G A3 x.fq.length c3],[J Z x.fR,J Z x.EQ,J Z x.ws],S1,([]++([]++[])),rfl,rfl,h1,⟨[J Z x.fR],[J Z x.EQ,J Z x.ws],[],([]++[]),rfl,rfl,⟨rfl,h2.1,h2.2,rfl⟩,⟨[J Z x.EQ],[J Z x.ws],[],[],rfl,rfl,⟨rfl,h3.1,h3.2,rfl⟩,⟨rfl,h4.1,h4.2,rfl⟩⟩⟩⟩⟩
 simpa using h
def zN (x:fO):Nat:=jE x.fk+lI jV x.fq
def zU (m:fv):Bool:=decide (m.pm.length=1200) && fP m.Sp 0 1200 && fP m.rc 0 2
def jq (x:fO):Bool:=zZ x.fk && fP x.fq.length 1 3 && fP x.fR 0 ((x.fq.length:Int)-1) && fP x.ws 1 1000 && fP x.EQ 1 x.ws && x.fq.all zU
theorem zj6 (hn:m.pm.length<=1099511627776):RD prog 46 #[.agg #[J Z m.Pc,J Z m.Sp,J Z m.Fp,G A0 m.pm.length c0,G A1 m.If.length c1,J Z m.rc,J Z m.Value]] w fun r w'=>r=.returned (H (zU m))/\fu w w':=by
 by_cases q:m.pm.length=1200
 case neg=>
  have HQ:=fh (show zU m=I from by simp[zU,q]);have p1:((m.pm.length:Int) == 1200)=I:=by simp;omega
  clear q;go_enter func46,ntmps46;go_wp2_with(fail);go_ret;exact⟨zp HQ.out.symm,gG⟩
 have p1:((m.pm.length:Int) == 1200)=M:=by simp;omega
 obtain⟨b1,h1⟩:∃ b,fP m.Sp 0 1200=b:=⟨_,rfl⟩
 obtain⟨b2,h2⟩:∃ b,fP m.rc 0 2=b:=⟨_,rfl⟩
 have HQ:=fh (show zU m=(b1 && b2) from by simp[zU,q,h1,h2]);have H1:=fh h1;have H2:=fh h2;clear q h1 h2;cases b1 with
 | false=>
  go_enter func46,ntmps46;go_wp2_with(go_at_call 38;(with_reducible refine(lW _ _ _ _).mono ?_);first | (rw[H1.out];rintro e w1 ⟨rfl,rfl⟩));go_ret;exact⟨zp HQ.out.symm,gG⟩
 | true=>
  go_enter func46,ntmps46;go_wp2_with(go_at_call 38;(with_reducible refine(lW _ _ _ _).mono ?_);first | (rw[H1.out];rintro e w1 ⟨rfl,rfl⟩) | (rw[H2.out];rintro e w1 ⟨rfl,rfl⟩));go_ret;exact⟨zp (by rw[HQ.out];rfl),gG⟩
theorem zg9 (hn:m.pm.length<=1099511627776):RD prog 42 #[.agg #[J Z m.Pc,J Z m.Sp,J Z m.Fp,G A0 m.pm.length c0,G A1 m.If.length c1,J Z m.rc,J Z m.Value]] w fun r w'=>r=.returned (H (zU m))/\fu w w':=by
 by_cases q:m.pm.length=1200
 case neg=>
  have HQ:=fh (show zU m=I from by simp[zU,q]);have p1:((m.pm.length:Int) == 1200)=I:=by simp;omega
  clear q;go_enter func42,ntmps42;go_wp2_with(fail);go_ret;exact⟨zp HQ.out.symm,gG⟩
 have p1:((m.pm.length:Int) == 1200)=M:=by simp;omega
 obtain⟨b1,h1⟩:∃ b,fP m.Sp 0 1200=b:=⟨_,rfl⟩
 obtain⟨b2,h2⟩:∃ b,fP m.rc 0 2=b:=⟨_,rfl⟩
 have HQ:=fh (show zU m=(b1 && b2) from by simp[zU,q,h1,h2]);have H1:=fh h1;have H2:=fh h2;clear q h1 h2;cases b1 with
 | false=>
  go_enter func42,ntmps42;go_wp2_with(go_at_call 43;(with_reducible refine(gW _ _ _ _).mono ?_);first | (rw[H1.out];rintro e w1 ⟨rfl,rfl⟩));go_ret;exact⟨zp HQ.out.symm,gG⟩
 | true=>
  go_enter func42,ntmps42;go_wp2_with(go_at_call 43;(with_reducible refine(gW _ _ _ _).mono ?_);first | (rw[H1.out];rintro e w1 ⟨rfl,rfl⟩) | (rw[H2.out];rintro e w1 ⟨rfl,rfl⟩));go_ret;exact⟨zp (by rw[HQ.out];rfl),gG⟩
theorem vJ {g:Prop} (f:g:=by
  have HR:=fh (show jq x=M from by rw[HF.out,<-hE.out,RL];rfl)
  clear hE
  go_wp2_with(fail)
  go_ret
  exact⟨zp HR.out.symm,hG0.trans gF⟩):g:=f
theorem zhh {x:fO} (h0:(iG.sl 103).R w w.heap.size [G A0 x.fk.fo.length c0] x.fk.fo)(h1:(zr.sl 3).R w w.heap.size [G A1 x.fk.ft.length c1] x.fk.ft)
  (h2:(zr.sl 3).R w w.heap.size [G A2 x.fk.ii.length c2] x.fk.ii) (h3:(zG.sl 41).R w w.heap.size [G A3 x.fq.length c3] x.fq) (hs:zN x<=1099511627776) :
  RD prog 13 #[.agg #[G A0 x.fk.fo.length c0,G A1 x.fk.ft.length c1,G A2 x.fk.ii.length c2,G A3 x.fq.length c3,J Z x.fR,J Z x.EQ,J Z x.ws]] w fun r w'=>r=.returned (H (jq x))/\fu w w':=by
 have a1:jE x.fk<=1099511627776:=by unfold zN at hs;omega
 have a5:lI jV x.fq<=1099511627776:=by unfold zN at hs;omega
 obtain⟨_,_,a6,aa,ab⟩:=kJ h3;injection a6 with e1 e2 e3
 subst e1 e3;clear e2 hs;obtain⟨b0,q0⟩:∃ b,zZ x.fk=b:=⟨_,rfl⟩
 obtain⟨b1,q1⟩:∃ b,fP x.fq.length 1 3=b:=⟨_,rfl⟩
 obtain⟨b2,q2⟩:∃ b,fP x.fR 0 ((x.fq.length:Int)-1)=b:=⟨_,rfl⟩
 obtain⟨b3,q3⟩:∃ b,fP x.ws 1 1000=b:=⟨_,rfl⟩
 obtain⟨b4,q4⟩:∃ b,fP x.EQ 1 x.ws=b:=⟨_,rfl⟩
 have HQ:=fh (show jq x=(b0 && b1 && b2 && b3 && b4 && x.fq.all zU) from by unfold jq;rw[q0,q1,q2,q3,q4]);have H0:=fh q0;have H1:=fh q1;have H2:=fh q2;have H3:=fh q3;have H4:=fh q4;have w1:Rg Z ((x.fq.length:Int)-1)=(x.fq.length:Int)-1:=iw;clear q0 q1 q2 q3 q4;cases b0 with
 | false=>
  have HF:=fh (show jq x=I from by rw[HQ.out];simp);go_enter func13,ntmps13;go_wp2_with(go_at_call 45;(with_reducible refine(ze1 (s:=x.fk) (Ty.up _ h0 gG) (Ty.up _ h1 gG) (Ty.up _ h2 gG) a1).mono ?_);rw[H0.out];rintro e w1 ⟨rfl,a0,d1,rfl⟩);go_ret;exact⟨zp HF.out.symm,gG⟩
 | true=>
 cases b1 with
 | false=>
  have HF:=fh (show jq x=I from by rw[HQ.out];simp);go_enter func13,ntmps13
  go_wp2_with(first
   | (go_at_call 45;(with_reducible refine(ze1 (s:=x.fk) (Ty.up _ h0 gG) (Ty.up _ h1 gG) (Ty.up _ h2 gG) a1).mono ?_);rw[H0.out];rintro e w1 ⟨rfl,a0,d1,rfl⟩)
   | (go_at_call 38;(with_reducible refine(lW _ _ _ _).mono ?_);first | (rw[H1.out];rintro e w1 ⟨rfl,rfl⟩)))
  go_ret;exact⟨zp HF.out.symm,gG⟩
 | true=>
 cases b2 with
 | false=>
  have HF:=fh (show jq x=I from by rw[HQ.out];simp);go_enter func13,ntmps13
  go_wp2_with(first
   | (go_at_call 45;(with_reducible refine(ze1 (s:=x.fk) (Ty.up _ h0 gG) (Ty.up _ h1 gG) (Ty.up _ h2 gG) a1).mono ?_);rw[H0.out];rintro e w1 ⟨rfl,a0,d1,rfl⟩)
   | (go_at_call 38;(with_reducible refine(lW _ _ _ _).mono ?_);first | (rw[H1.out];rintro e w1 ⟨rfl,rfl⟩) | (rw[H2.out];rintro e w1 ⟨rfl,rfl⟩)))
  go_ret;exact⟨zp HF.out.symm,gG⟩
 | true=>
 cases b3 with
 | false=>
  have HF:=fh (show jq x=I from by rw[HQ.out];simp);go_enter func13,ntmps13
  go_wp2_with(first
   | (go_at_call 45;(with_reducible refine(ze1 (s:=x.fk) (Ty.up _ h0 gG) (Ty.up _ h1 gG) (Ty.up _ h2 gG) a1).mono ?_);rw[H0.out];rintro e w1 ⟨rfl,a0,d1,rfl⟩)
   | (go_at_call 38;(with_reducible refine(lW _ _ _ _).mono ?_);first | (rw[H1.out];rintro e w1 ⟨rfl,rfl⟩) | (rw[H2.out];rintro e w1 ⟨rfl,rfl⟩) | (rw[H3.out];rintro e w1 ⟨rfl,rfl⟩)))
  go_ret;exact⟨zp HF.out.symm,gG⟩
 | true=>
 cases b4 with
 | false=>
  have HF:=fh (show jq x=I from by rw[HQ.out];simp);go_enter func13,ntmps13
  go_wp2_with(first
   | (go_at_call 45;(with_reducible refine(ze1 (s:=x.fk) (Ty.up _ h0 gG) (Ty.up _ h1 gG) (Ty.up _ h2 gG) a1).mono ?_);rw[H0.out];rintro e w1 ⟨rfl,a0,d1,rfl⟩)
   | (go_at_call 38;(with_reducible refine(lW _ _ _ _).mono ?_);first | (rw[H1.out];rintro e w1 ⟨rfl,rfl⟩) | (rw[H2.out];rintro e w1 ⟨rfl,rfl⟩) | (rw[H3.out];rintro e w1 ⟨rfl,rfl⟩) | (rw[H4.out];rintro e w1 ⟨rfl,rfl⟩)))
  go_ret;exact⟨zp HF.out.symm,gG⟩
 | true=>
 have HF:=fh (show jq x=x.fq.all zU from by rw[HQ.out];simp);go_enter func13,ntmps13
 go_wp2_with(first
   | (go_at_call 45;(with_reducible refine(ze1 (s:=x.fk) (Ty.up _ h0 gG) (Ty.up _ h1 gG) (Ty.up _ h2 gG) a1).mono ?_);rw[H0.out];rintro e w1 ⟨rfl,a0,d1,rfl⟩)
   | (go_at_call 38;(with_reducible refine(lW _ _ _ _).mono ?_);first | (rw[H1.out];rintro e w1 ⟨rfl,rfl⟩) | (rw[H2.out];rintro e w1 ⟨rfl,rfl⟩) | (rw[H3.out];rintro e w1 ⟨rfl,rfl⟩) | (rw[H4.out];rintro e w1 ⟨rfl,rfl⟩)))
 have hG0:fu w (fy (w.alloc (F #[G A0 x.fk.fo.length c0,G A1 x.fk.ft.length c1,G A2 x.fk.ii.length c2,G A3 x.fq.length c3,J Z x.fR,J Z x.EQ,J Z x.ws] 34)) a0 d1):=gG;have eb:(fy (w.alloc (F #[G A0 x.fk.fo.length c0,G A1 x.fk.ft.length c1,G A2 x.fk.ii.length c2,G A3 x.fq.length c3,J Z x.fR,J Z x.EQ,J Z x.ws] 34)) a0 d1).heap[w.heap.size]?=D (F #[G A0 x.fk.fo.length c0,G A1 x.fk.ft.length c1,G A2 x.fk.ii.length c2,G A3 x.fq.length c3,J Z x.fR,J Z x.EQ,J Z x.ws] 34 (0,0)):=zj (Re w _) gF;have k3:=Ty.up _ h3 hG0;obtain⟨g0,a3⟩:∃ g0,w.heap.size=g0:=⟨_,rfl⟩
 rw[a3] at eb |-;generalize (fy (w.alloc _) a0 d1)=Y at hG0 eb k3 |-;have hc:=fun k=>Sw Y g0 k _ _ (0,0) eb;have y1:Rb Y ⟨g0,3,C⟩=D (G A3 x.fq.length c3):=hc 3;have yl:g0<Y.heap.size:=(blt eb)
 clear h0 h1 h2 h3 a3 hc eb;go_loopw [43] (fun z wr=>∃ k:Nat,z=J Z k/\k<=x.fq.length/\Hid ((x.fq.drop k).all zU=x.fq.all zU)/\Hid (fu Y wr)) (fun z _=>x.fq.length-(RS z).toNat)
 case atStart=>exact⟨0,rfl,Rl _,fh rfl,fh (fu.refl _)⟩
 case round=>
  obtain⟨k,rfl,hk,hE,hG⟩:=hrel;obtain⟨os,d,rfl⟩:=hG.out;clear hG;have ad:=zd y1 os d;by_cases hlt:k<x.fq.length
  ·obtain⟨g,ac,y,Aa,ca,Ab,cb,rfl,a8,a2,m0,m1,m2,m3,m4,m5,m6,_⟩:=wA k3 hlt
   have ha:=yE a2 zU;rw[hE.out] at ha;have n0:=zd m0 os d;have n1:=zd m1 os d;have n2:=zd m2 os d;have n3:=zd m3 os d;have n4:=zd m4 os d;have n5:=zd m5 os d;have n6:=zd m6 os d;have a9:(k:Int)<(x.fq.length:Int):=K9;have a4:y.pm.length<=1099511627776:=by have h1:=tS jV a2;unfold jV at h1 a5;omega
   obtain⟨b,hb⟩:∃ b,zU y=b:=⟨_,rfl⟩
   rw[hb] at ha;have HB:=fh hb;clear hb a2 hE m0 m1 m2 m3 m4 m5 m6;cases b with
   | false=>
    have HR:=fh (show jq x=I from by rw[HF.out,ha];rfl);clear ha;go_wp2_with(go_at_call 46;(with_reducible refine(zj6 (m:=y) a4).mono ?_);rw[HB.out];rintro e w2 ⟨rfl,a7,d2,rfl⟩);go_ret;exact⟨zp HR.out.symm,hG0.trans gF⟩
   | true=>
    have HR:=fh (show (x.fq.drop (k+1)).all zU=x.fq.all zU from by rw[ha];rfl);clear ha;go_wp2_with(go_at_call 46;(with_reducible refine(zj6 (m:=y) a4).mono ?_);rw[HB.out];rintro e w2 ⟨rfl,a7,d2,rfl⟩);go_roundw;exact⟨k+1,Ar,K9,HR,fh gG⟩;exact gM
  ·obtain rfl:k=x.fq.length:=K9
   exact vJ
theorem zhi {x:fO} (h0:(iG.sl 103).R w w.heap.size [G A0 x.fk.fo.length c0] x.fk.fo)(h1:(zr.sl 3).R w w.heap.size [G A1 x.fk.ft.length c1] x.fk.ft)
  (h2:(zr.sl 3).R w w.heap.size [G A2 x.fk.ii.length c2] x.fk.ii) (h3:(zG.sl 41).R w w.heap.size [G A3 x.fq.length c3] x.fq) (hs:zN x<=1099511627776) :
  RD prog 47 #[.agg #[G A0 x.fk.fo.length c0,G A1 x.fk.ft.length c1,G A2 x.fk.ii.length c2,G A3 x.fq.length c3,J Z x.fR,J Z x.EQ,J Z x.ws]] w fun r w'=>r=.returned (H (jq x))/\fu w w':=by
 have a1:jE x.fk<=1099511627776:=by unfold zN at hs;omega
 have a5:lI jV x.fq<=1099511627776:=by unfold zN at hs;omega
 obtain⟨_,_,a6,aa,ab⟩:=kJ h3;injection a6 with e1 e2 e3
 subst e1 e3;clear e2 hs;obtain⟨b0,q0⟩:∃ b,zZ x.fk=b:=⟨_,rfl⟩
 obtain⟨b1,q1⟩:∃ b,fP x.fq.length 1 3=b:=⟨_,rfl⟩
 obtain⟨b2,q2⟩:∃ b,fP x.fR 0 ((x.fq.length:Int)-1)=b:=⟨_,rfl⟩
 obtain⟨b3,q3⟩:∃ b,fP x.ws 1 1000=b:=⟨_,rfl⟩
 obtain⟨b4,q4⟩:∃ b,fP x.EQ 1 x.ws=b:=⟨_,rfl⟩
 have HQ:=fh (show jq x=(b0 && b1 && b2 && b3 && b4 && x.fq.all zU) from by unfold jq;rw[q0,q1,q2,q3,q4]);have H0:=fh q0;have H1:=fh q1;have H2:=fh q2;have H3:=fh q3;have H4:=fh q4;have w1:Rg Z ((x.fq.length:Int)-1)=(x.fq.length:Int)-1:=iw;clear q0 q1 q2 q3 q4;cases b0 with
 | false=>
  have HF:=fh (show jq x=I from by rw[HQ.out];simp);go_enter func47,ntmps47;go_wp2_with(go_at_call 41;(with_reducible refine(zbG (s:=x.fk) (Ty.up _ h0 gG) (Ty.up _ h1 gG) (Ty.up _ h2 gG) a1).mono ?_);rw[H0.out];rintro e w1 ⟨rfl,a0,d1,rfl⟩);go_ret;exact⟨zp HF.out.symm,gG⟩
 | true=>
 cases b1 with
 | false=>
  have HF:=fh (show jq x=I from by rw[HQ.out];simp);go_enter func47,ntmps47
  go_wp2_with(first
   | (go_at_call 41;(with_reducible refine(zbG (s:=x.fk) (Ty.up _ h0 gG) (Ty.up _ h1 gG) (Ty.up _ h2 gG) a1).mono ?_);rw[H0.out];rintro e w1 ⟨rfl,a0,d1,rfl⟩)
   | (go_at_call 43;(with_reducible refine(gW _ _ _ _).mono ?_);first | (rw[H1.out];rintro e w1 ⟨rfl,rfl⟩)))
  go_ret;exact⟨zp HF.out.symm,gG⟩
 | true=>
 cases b2 with
 | false=>
  have HF:=fh (show jq x=I from by rw[HQ.out];simp);go_enter func47,ntmps47
  go_wp2_with(first
   | (go_at_call 41;(with_reducible refine(zbG (s:=x.fk) (Ty.up _ h0 gG) (Ty.up _ h1 gG) (Ty.up _ h2 gG) a1).mono ?_);rw[H0.out];rintro e w1 ⟨rfl,a0,d1,rfl⟩)
   | (go_at_call 43;(with_reducible refine(gW _ _ _ _).mono ?_);first | (rw[H1.out];rintro e w1 ⟨rfl,rfl⟩) | (rw[H2.out];rintro e w1 ⟨rfl,rfl⟩)))
  go_ret;exact⟨zp HF.out.symm,gG⟩
 | true=>
 cases b3 with
 | false=>
  have HF:=fh (show jq x=I from by rw[HQ.out];simp);go_enter func47,ntmps47
  go_wp2_with(first
   | (go_at_call 41;(with_reducible refine(zbG (s:=x.fk) (Ty.up _ h0 gG) (Ty.up _ h1 gG) (Ty.up _ h2 gG) a1).mono ?_);rw[H0.out];rintro e w1 ⟨rfl,a0,d1,rfl⟩)
   | (go_at_call 43;(with_reducible refine(gW _ _ _ _).mono ?_);first | (rw[H1.out];rintro e w1 ⟨rfl,rfl⟩) | (rw[H2.out];rintro e w1 ⟨rfl,rfl⟩) | (rw[H3.out];rintro e w1 ⟨rfl,rfl⟩)))
  go_ret;exact⟨zp HF.out.symm,gG⟩
 | true=>
 cases b4 with
 | false=>
  have HF:=fh (show jq x=I from by rw[HQ.out];simp);go_enter func47,ntmps47
  go_wp2_with(first
   | (go_at_call 41;(with_reducible refine(zbG (s:=x.fk) (Ty.up _ h0 gG) (Ty.up _ h1 gG) (Ty.up _ h2 gG) a1).mono ?_);rw[H0.out];rintro e w1 ⟨rfl,a0,d1,rfl⟩)
   | (go_at_call 43;(with_reducible refine(gW _ _ _ _).mono ?_);first | (rw[H1.out];rintro e w1 ⟨rfl,rfl⟩) | (rw[H2.out];rintro e w1 ⟨rfl,rfl⟩) | (rw[H3.out];rintro e w1 ⟨rfl,rfl⟩) | (rw[H4.out];rintro e w1 ⟨rfl,rfl⟩)))
  go_ret;exact⟨zp HF.out.symm,gG⟩
 | true=>
 have HF:=fh (show jq x=x.fq.all zU from by rw[HQ.out];simp);go_enter func47,ntmps47
 go_wp2_with(first
   | (go_at_call 41;(with_reducible refine(zbG (s:=x.fk) (Ty.up _ h0 gG) (Ty.up _ h1 gG) (Ty.up _ h2 gG) a1).mono ?_);rw[H0.out];rintro e w1 ⟨rfl,a0,d1,rfl⟩)
   | (go_at_call 43;(with_reducible refine(gW _ _ _ _).mono ?_);first | (rw[H1.out];rintro e w1 ⟨rfl,rfl⟩) | (rw[H2.out];rintro e w1 ⟨rfl,rfl⟩) | (rw[H3.out];rintro e w1 ⟨rfl,rfl⟩) | (rw[H4.out];rintro e w1 ⟨rfl,rfl⟩)))
 have hG0:fu w (fy (w.alloc (F #[G A0 x.fk.fo.length c0,G A1 x.fk.ft.length c1,G A2 x.fk.ii.length c2,G A3 x.fq.length c3,J Z x.fR,J Z x.EQ,J Z x.ws] 34)) a0 d1):=gG;have eb:(fy (w.alloc (F #[G A0 x.fk.fo.length c0,G A1 x.fk.ft.length c1,G A2 x.fk.ii.length c2,G A3 x.fq.length c3,J Z x.fR,J Z x.EQ,J Z x.ws] 34)) a0 d1).heap[w.heap.size]?=D (F #[G A0 x.fk.fo.length c0,G A1 x.fk.ft.length c1,G A2 x.fk.ii.length c2,G A3 x.fq.length c3,J Z x.fR,J Z x.EQ,J Z x.ws] 34 (0,0)):=zj (Re w _) gF;have k3:=Ty.up _ h3 hG0;obtain⟨g0,a3⟩:∃ g0,w.heap.size=g0:=⟨_,rfl⟩
 rw[a3] at eb |-;generalize (fy (w.alloc _) a0 d1)=Y at hG0 eb k3 |-;have hc:=fun k=>Sw Y g0 k _ _ (0,0) eb;have y1:Rb Y ⟨g0,3,C⟩=D (G A3 x.fq.length c3):=hc 3;have yl:g0<Y.heap.size:=(blt eb)
 clear h0 h1 h2 h3 a3 hc eb;go_loopw [3] (fun z wr=>∃ k:Nat,z=J Z k/\k<=x.fq.length/\Hid ((x.fq.drop k).all zU=x.fq.all zU)/\Hid (fu Y wr)) (fun z _=>x.fq.length-(RS z).toNat)
 case atStart=>exact⟨0,rfl,Rl _,fh rfl,fh (fu.refl _)⟩
 case round=>
  obtain⟨k,rfl,hk,hE,hG⟩:=hrel;obtain⟨os,d,rfl⟩:=hG.out;clear hG;have ad:=zd y1 os d;by_cases hlt:k<x.fq.length
  ·obtain⟨g,ac,y,Aa,ca,Ab,cb,rfl,a8,a2,m0,m1,m2,m3,m4,m5,m6,_⟩:=wA k3 hlt
   have ha:=yE a2 zU;rw[hE.out] at ha;have n0:=zd m0 os d;have n1:=zd m1 os d;have n2:=zd m2 os d;have n3:=zd m3 os d;have n4:=zd m4 os d;have n5:=zd m5 os d;have n6:=zd m6 os d;have a9:(k:Int)<(x.fq.length:Int):=K9;have a4:y.pm.length<=1099511627776:=by have h1:=tS jV a2;unfold jV at h1 a5;omega
   obtain⟨b,hb⟩:∃ b,zU y=b:=⟨_,rfl⟩
   rw[hb] at ha;have HB:=fh hb;clear hb a2 hE m0 m1 m2 m3 m4 m5 m6;cases b with
   | false=>
    have HR:=fh (show jq x=I from by rw[HF.out,ha];rfl);clear ha;go_wp2_with(go_at_call 42;(with_reducible refine(zg9 (m:=y) a4).mono ?_);rw[HB.out];rintro e w2 ⟨rfl,a7,d2,rfl⟩);go_ret;exact⟨zp HR.out.symm,hG0.trans gF⟩
   | true=>
    have HR:=fh (show (x.fq.drop (k+1)).all zU=x.fq.all zU from by rw[ha];rfl);clear ha;go_wp2_with(go_at_call 42;(with_reducible refine(zg9 (m:=y) a4).mono ?_);rw[HB.out];rintro e w2 ⟨rfl,a7,d2,rfl⟩);go_roundw;exact⟨k+1,Ar,K9,HR,fh gG⟩;exact gM
  ·obtain rfl:k=x.fq.length:=K9
   exact vJ
def jO (n:Int):Int:=(n+2147483648) % 4294967296-2147483648
def zO (code a b:Int):Int:=
 if code=5 then jO (jO a+jO b)
 else if code=6 then jO (jO a-jO b)
 else if code=7 then jO (jO a*jO b)
 else if code=8 then (if jO a<jO b then 1 else 0)
 else if code=9 then (if jO a=jO b then 1 else 0)
 else 0
def ll (m:fv)(a:Int):X Int:=if fP a 0 1199=M then m.pm[a.toNat]? else C
def zP (m:fv)(v:Int):X fv:=if fP m.Sp 1 1200=M then D { m with Sp:=m.Sp-1,pm:=m.pm.set (m.Sp-1).toNat v } else C
def gX (m:fv):X (fv × Int):=(ll m m.Sp).map fun v=>({ m with Sp:=m.Sp+1 },v)
def ld (m:fv)(a v:Int):X fv:=if fP a 0 1199=M then D { m with pm:=m.pm.set a.toNat v } else C
def ju:Nat->fv->X fv
 | 0,m=>D m
 | n+1,m=>(gX m).bind fun p=>ju n p.1
def oA:Nat->fv->X fv
 | 0,m=>D m
 | n+1,m=>(zP m 0).bind fun m'=>oA n m'
def zA (es:Q Int)(m:fv)(code arg:Int):X fv:=
 if code=0 then zP m arg
 else if code=1 then (ll m (m.Fp+arg)).bind fun v=>zP m v
 else if code=3 then (ll m (m.Sp+arg)).bind fun v=>zP m v
 else if code=2 then (gX m).bind fun p=>ld p.1 (m.Fp+arg) p.2
 else if code=4 then (gX m).bind fun p=>ld p.1 (m.Sp+arg) p.2
 else if code=10 then D { m with Pc:=m.Pc+arg }
 else if code=11 then (gX m).map fun p=>if p.2=0 then { p.1 with Pc:=p.1.Pc+arg } else p.1
 else if code=12 then (zP m m.Pc).bind fun m'=>(es[arg.toNat]?).map fun e=>{ m' with Pc:=e }
 else if code=13 then (zP m m.Fp).bind fun m'=>oA arg.toNat { m' with Fp:=m'.Sp }
 else if code=15 then oA arg.toNat m
 else if code=14 then (gX m).bind fun p=>(gX { p.1 with Sp:=p.1.Fp }).bind fun q=>(gX { q.1 with Fp:=q.2 }).bind fun r=>(ju arg.toNat { r.1 with Pc:=r.2 }).bind fun m'=>zP m' p.2
 else if code=16 then (gX m).bind fun p=>(ju (arg.toNat / 16) p.1).bind fun m1=>(gX m1).bind fun r=>(ju (arg.toNat % 16) { r.1 with Pc:=r.2 }).bind fun m'=>zP m' p.2
 else if code=17 then (gX m).map fun p=>{ p.1 with If:=p.1.If++[p.2] }
 else (gX m).bind fun p=>(gX p.1).bind fun q=>zP q.1 (zO code q.2 p.2)
def lf (m:fv):X fv:=if m.Pc=0 then (ll m m.Sp).map fun v=>{ m with rc:=1,Value:=v } else D m
def ji (s:gk)(m:fv):fv:=
 let l:=loc s m.Pc
 match (if l.1<0 then C else s.fo[l.1.toNat]?) with
 | none=>{ m with rc:=2 }
 | some i=>
  let r:=je i.Code l.2
  if r.ok=M then (((zA s.ii { m with Pc:=m.Pc+r.n } r.code r.arg).bind lf).getD { m with rc:=2 }) else { m with rc:=2 }
def sJ (v:Int):gB:=⟨0,v,Wy⟩
def oE (t:gB)(l:Q gB):Q gB:=
 match l with
 | [a,b]=>if fP t.li 2 6=M/\a.li=0/\b.li=0/\fP (zO (t.li+3) a.gZ b.gZ) 0 999=M then [sJ (zO (t.li+3) a.gZ b.gZ)] else t::l
 | _=>t::l
mutual
def Ex.fold:Ex->Q gB
 | .node t ks=>oE t ks.fold
def gu.fold:gu->Q gB
 | .nil=>[]
 | .cons e r=>e.fold++r.fold
end
theorem Af (t:gB)(l:Q gB):oE t l=t::l∨∃ a b,l = [a,b]/\fP t.li 2 6=M/\a.li=0/\b.li=0/\fP (zO (t.li+3) a.gZ b.gZ) 0 999=M/\oE t l = [sJ (zO (t.li+3) a.gZ b.gZ)]:=by
 unfold oE;split
 ·rename_i a b
  by_cases h:fP t.li 2 6=M/\a.li=0/\b.li=0/\fP (zO (t.li+3) a.gZ b.gZ) 0 999=M
  ·rw[Rs h]
   exact .inr ⟨a,b,rfl,h.1,h.2.1,h.2.2.1,h.2.2.2,rfl⟩
  ·rw[Ro h];exact .inl rfl
 ·exact .inl rfl
theorem GC {v:Int} (h:fP v 0 999=M):lx (sJ v)=M:=by
 unfold lx sJ;simp[h]
mutual
theorem Ex.ig:∀ e:Ex,e.wf->∃ e':Ex,e'.wf/\e'.flat=e.fold/\e'.size<=e.size
 | .node t ks,h=>by
  obtain⟨h1,h2,h3⟩:=h;obtain⟨a0,g1,g2,g3,g4⟩:=gu.ig ks h3;simp only[Ex.fold,Ex.size];rcases Af t ks.fold with hf | ⟨a,b,_,_,_,_,hv,hf⟩
  ·rw[hf]
   exact⟨.node t a0,⟨h1,by rw[g2];exact h2,g1⟩,by simp only[Ex.flat,g3],by simp only[Ex.size];omega⟩
  ·rw[hf]
   refine⟨.node (sJ (zO (t.li+3) a.gZ b.gZ)) .nil,⟨GC hv,?_,trivial⟩,rfl,by simp only[Ex.size,gu.size];omega⟩;unfold jo;rw[Rs (GC hv)];rfl
theorem gu.ig:∀ ks:gu,ks.wf->∃ ks':gu,ks'.wf/\ks'.len=ks.len/\ks'.flat=ks.fold/\ks'.size<=ks.size
 | .nil,_=>⟨.nil,trivial,rfl,rfl,Ru _⟩
 | .cons e r,h=>by
  obtain⟨e',h1,h2,h3⟩:=Ex.ig e h.1;obtain⟨r',g1,g2,g3,g4⟩:=gu.ig r h.2;exact⟨.cons e' r',⟨h1,g1⟩,by simp only[gu.len,g2],by simp only[gu.flat,gu.fold,h2,g3],by simp only[gu.size];omega⟩
end
mutual
theorem Ex.jM:∀(e:Ex)(t:gB),t∈e.fold->t∈e.flat∨t.li=0
 | .node t ks,u,h=>by
  simp only[Ex.fold] at h;simp only[Ex.flat,RO];rcases Af t ks.fold with hf | ⟨a,b,_,_,_,_,hv,hf⟩
  ·rw[hf] at h
   rcases RO.1 h with h | h
   ·exact .inl (.inl h)
   ·rcases gu.jM ks u h with h | h
    ·exact .inl (.inr h)
    ·exact .inr h
  ·rw[hf] at h
   rw[Rc.1 h];exact .inr rfl
theorem gu.jM:∀(ks:gu)(t:gB),t∈ks.fold->t∈ks.flat∨t.li=0
 | .nil,u,h=>by simp[gu.fold] at h
 | .cons e r,u,h=>by
  simp only[gu.fold,Rr] at h;simp only[gu.flat,Rr];rcases h with h | h
  ·rcases Ex.jM e u h with h | h
   ·exact .inl (.inl h)
   ·exact .inr h
  ·rcases gu.jM r u h with h | h
   ·exact .inl (.inr h)
   ·exact .inr h
end
def ug (xs:Q gB):Nat->Nat->Nat->Q gB × Nat
 | 0,_,a=>([],a)
 | _+1,0,a=>([],a)
 | f+1,n+1,a=>match xs[a]? with
  | none=>([],a)
  | some t=>(oE t (ug xs f (jo t).toNat (a+1)).1++(ug xs f n (ug xs f (jo t).toNat (a+1)).2).1,(ug xs f n (ug xs f (jo t).toNat (a+1)).2).2)
theorem CA {xs:Q gB}:∀(f:Nat)(ks:gu)(a:Nat)(r:Q gB),ks.wf->xs.drop a=ks.flat++r->ks.size<f->ug xs f ks.len a=(ks.fold,a+ks.size)
 | 0,_,_,_,_,_,hf=>K9
 | f+1,.nil,a,r,_,_,_=>rfl
 | f+1,.cons (.node t ks) q,a,r,h,hx,hf=>by
  simp only[gu.flat,Ex.flat,TQ,RU] at hx;simp only[gu.size,Ex.size] at hf;obtain⟨h1,h2⟩:=xp hx;simp only[gu.len,ug,h1];have e1:=CA f ks (a+1) _ h.1.2.2 h2 K9;rw[h.1.2.1,Ry,e1]
  have h3:xs.drop (a+1+ks.size)=q.flat++r:=by
   rw[<-Uf,h2,<-ks.gj,UH]
  rw[CA f q _ r h.2 h3 K9];simp only[gu.fold,Ex.fold,gu.size,Ex.size];congr 1;omega
def rp (xs:Q gB):Q gB:=if pL xs=M then (ug xs (xs.length+1) 1 0).1 else []
theorem KI {e:Ex} (h:e.wf)(hx:pL e.flat=M):rp e.flat=e.fold:=by
 unfold rp;rw[Rs hx];have:=CA (xs:=e.flat) (e.flat.length+1) (.cons e .nil) 0 [] ⟨h,trivial⟩ (by simp[gu.flat]) (by simp only[gu.size,e.gj];omega);simp only[gu.len,RF] at this;rw[this];simp[gu.fold]
theorem zm {xs:Q gB} (h:pL xs=M):∃ e:Ex,e.wf/\xs=e.flat/\xs.length<=20/\rp xs=e.fold:=by
 obtain⟨e,h1,h2,h3⟩:=EY h;subst h2;exact⟨e,h1,rfl,h3,KI h1 h⟩
mutual
theorem Ex.WD:∀(e e':Ex),e.wf->e'.wf->∀(r r':Q gB),e.flat++r=e'.flat++r'->e=e'/\r=r'
 | .node t ks,.node t' ks',h,h',r,r',hx=>by
  simp only[Ex.flat,TQ,TL] at hx;obtain⟨rfl,hx⟩:=hx;obtain⟨h1,h2⟩:=gu.WD ks ks' h.2.2 h'.2.2 (by have:=h.2.1;have:=h'.2.1;omega) r r' hx;exact⟨by rw[h1],h2⟩
theorem gu.WD:∀(ks ks':gu),ks.wf->ks'.wf->ks.len=ks'.len->∀(r r':Q gB),ks.flat++r=ks'.flat++r'->ks=ks'/\r=r'
 | .nil,.nil,_,_,_,r,r',hx=>⟨rfl,by simpa[gu.flat] using hx⟩
 | .nil,.cons _ _,_,_,hl,_,_,_=>by simp[gu.len] at hl
 | .cons _ _,.nil,_,_,hl,_,_,_=>by simp[gu.len] at hl
 | .cons e q,.cons e' q',h,h',hl,r,r',hx=>by
  simp only[gu.flat,RU] at hx;obtain⟨h1,h2⟩:=Ex.WD e e' h.1 h'.1 _ _ hx;obtain⟨h3,h4⟩:=gu.WD q q' h.2 h'.2 (by simpa[gu.len] using hl) r r' h2;exact⟨by rw[h1,h3],h4⟩
end
def jG (l:Q N)(s:N):Bool:=l.any fun y=>decide (y=s)
def rB (k:Int):Bool:=decide (k=1) || (decide (k=2) || (decide (k=3) || (decide (k=5) || decide (k=6))))
def qN:Q N->Q N->Bool
 | _,[]=>M
 | pre,x::r=>kZ x && (!(jG pre x) && qN (pre++[x]) r)
def yG (l:Q N):Bool:=decide (l.length<=4) && qN [] l
def wJ (x:fw):Bool:=if x.li=0∨x.li=1 then kZ x.pu else decide (x.pu=Wy)
def pK (x:fw):Bool:=if x.li=0 then yG x.fL else decide (x.fL.length=0)
def rG (x:fw):Bool:=if rB x.li=M then pL x.Expr else decide (x.Expr.length=0)
def oC (x:fw):Bool:=fP x.li 0 7 && (wJ x && (pK x && rG x))
def lu:Q fw->Nat->Q Int
 | [],_=>[]
 | x::r,i=>if x.li=0 then (i:Int)::lu r (i+1) else lu r (i+1)
def zq (p:Q fw):Q Int:=lu p 0
def oB:Q fw->N->Nat->Int
 | [],_,_=>-1
 | x::r,s,i=>if x.li=0/\x.pu=s then (i:Int) else oB r s (i+1)
def kz (p:Q fw)(s:N):Int:=oB p s 0
def rz (out:Q N)(x:fw):Q N:=if x.li=1/\jG out x.pu=I then out++[x.pu] else out
def oR:Q fw->Nat->Q N->Q N
 | _,0,out=>out
 | [],_+1,out=>out
 | x::r,n+1,out=>oR r n (rz out x)
def zv (p:Q fw)(k:Int):Q N:=if iP p k<0 then [] else match p[k.toNat]? with
 | none=>[]
 | some x=>if x.li=0 then oR (p.drop k.toNat) ((iP p k).toNat-k.toNat) x.fL else []
def lr (p:Q fw)(un:Q N)(t:gB):Bool:=
 if t.li=1 then jG un t.pu else if t.li=7 then (if kz p t.pu<0 then I else match p[(kz p t.pu).toNat]? with
  | none=>I
  | some x=>decide ((x.fL.length:Int)=t.gZ)) else M
def kG (p:Q fw)(un:Q N)(l:Q gB):Bool:=l.all (lr p un)
def rE (p:Q fw)(k i:Nat):Bool:=(Ui k (i-k)).any fun j=>decide (kh p j=i)
def nW (p:Q fw)(un:Q N)(k i:Nat)(x:fw):Bool:=
 (!decide (x.li=0)) && ((if x.li=4 then rE p k i else M) && (decide (zL p (i+1)-zL p (k+1)<=4) && kG p un x.Expr))
def rD (p:Q fw)(un:Q N)(k:Nat):Q fw->Nat->Nat->Bool
 | _,0,_=>M
 | [],_+1,_=>M
 | x::r,n+1,i=>nW p un k i x && rD p un k r n (i+1)
def mE (p:Q fw)(k e:Nat):Bool:=decide ((zv p k).length<=8) && rD p (zv p k) k (p.drop (k+1)) (e-(k+1)) (k+1)
def pe (p:Q fw):Nat->Nat->Bool
 | 0,_=>M
 | n+1,k=>match p[k]? with
  | none=>M
  | some x=>decide (x.li=0) && (decide (0<=iP p k) && (mE p k (iP p k).toNat && pe p n ((iP p k).toNat+1)))
def tI:N:=⟨#[109,97,105,110]⟩
def qq (p:Q fw):Bool:=match p[0]? with
 | none=>I
 | some x=>decide (x.li=0) && (decide (x.pu=tI) && decide (x.fL.length=0))
def sI (p:Q fw)(k:Nat)(x:fw):Bool:=oC x && (if x.li=0 then decide (kz p x.pu=k) else M)
def oW (p:Q fw):Q fw->Nat->Bool
 | [],_=>M
 | x::r,k=>sI p k x && oW p r (k+1)
def zx (p:Q fw):Bool:=decide (p.length<=60) && (qq p && (decide ((zq p).length<=6) && (oW p p 0 && pe p p.length 0)))
theorem Az {l:Q fw} (h:l[i]?=D x):oW p (l.drop i) i=(sI p i x && oW p (l.drop (i+1)) (i+1)):=by
 obtain⟨h1,rfl⟩:=Rd.1 h;rw[Rw h1];rfl
theorem EF {p:Q fw}:∀(l:Q fw)(k i:Nat)(x:fw),oW p l k=M->l[i]?=D x->sI p (k+i) x=M
 | [],_,_,_,_,h=>by simp at h
 | y::r,k,0,x,h,hx=>by
  simp only[oW,Rq] at h;simp only[RW,RT] at hx;rw[<-hx];exact h.1
 | y::r,k,i+1,x,h,hx=>by
  simp only[oW,Rq] at h;have:=EF r (k+1) i x h.2 (by simpa using hx);rwa [show k+1+i=k+(i+1) from K9] at this
theorem Fb:∀(l:Q fw)(s:N)(k:Nat),oB l s k = -1∨∃(i:Nat)(x:fw),oB l s k=((k+i:Nat):Int)/\l[i]?=D x/\x.li=0/\x.pu=s
 | [],_,_=>.inl rfl
 | y::r,s,k=>by
  unfold oB;by_cases h:y.li=0/\y.pu=s
  ·rw[Rs h]
   exact .inr ⟨0,y,rfl,rfl,h.1,h.2⟩
  ·rw[Ro h]
   rcases Fb r s (k+1) with h1 | ⟨i,x,h1,h2,h3,h4⟩
   ·exact .inl h1
   ·exact .inr ⟨i+1,x,by rw[h1];congr 1;omega,by simpa using h2,h3,h4⟩
theorem KH (p:Q fw)(s:N):kz p s = -1∨∃(i:Nat)(x:fw),kz p s=(i:Int)/\p[i]?=D x/\x.li=0/\x.pu=s:=by
 rcases Fb p s 0 with h | ⟨i,x,h1,h2,h3,h4⟩
 ·exact .inl h
 ·exact .inr ⟨i,x,by unfold kz;rw[h1];simp,h2,h3,h4⟩
theorem sZ (h:p[i]?=D x)(hi:i<e):rD p un k (p.drop i) (e-i) i=(nW p un k i x && rD p un k (p.drop (i+1)) (e-(i+1)) (i+1)):=by
 obtain⟨h1,rfl⟩:=Rd.1 h;rw[Rw h1,show e-i=e-(i+1)+1 from K9];rfl
theorem Fi {p:Q fw}{un:Q N}{k:Nat}:∀(l:Q fw)(n a i:Nat)(x:fw),rD p un k l n a=M->i<n->l[i]?=D x->nW p un k (a+i) x=M
 | [],_,_,_,_,_,_,h=>by simp at h
 | y::r,0,_,_,_,_,hi,_=>K9
 | y::r,n+1,a,0,x,h,_,hx=>by
  simp only[rD,Rq] at h;simp only[RW,RT] at hx;rw[<-hx];exact h.1
 | y::r,n+1,a,i+1,x,h,hi,hx=>by
  simp only[rD,Rq] at h;have:=Fi r n (a+1) i x h.2 K9 (by simpa using hx);rwa [show a+1+i=a+(i+1) from K9] at this
theorem EM (h:mE p k e=M)(h1:k<i)(h2:i<e)(hx:p[i]?=D x):nW p (zv p k) k i x=M:=by
 unfold mE at h;simp only[Rq] at h;have:=Fi _ _ _ (i-(k+1)) x h.2 K9 (by rw[TT,show k+1+(i-(k+1))=i from K9];exact hx);rwa [show k+1+(i-(k+1))=i from K9] at this
theorem FU {p:Q fw}:∀(n k:Nat),p.length-k<=n->pe p n k=M->∀(i:Nat)(x:fw),k<=i->p[i]?=D x->x.li=0->∃ e,gz p i e/\mE p i e=M
 | 0,k,hn,_,i,x,hi,hx,_=>by have:=(Rd.1 hx).1;omega
 | n+1,k,hn,h,i,x,hi,hx,h0=>by
  have a0:=(Rd.1 hx).1;have hk:p[k]?=D p[k]:=Rn (by omega);simp only[pe,hk,Rq,RC] at h;obtain⟨h1,h2,h3,h4⟩:=h;rcases wY p k with⟨g,_⟩ | ⟨e,g1,g2⟩
  ·rw[g] at h2;omega
  ·rw[g1,Ry] at h3 h4
   rcases UY hi with hh | hh
   ·subst hh
    exact⟨e,g2,h3⟩
   ·have a1:=g2.lt
    by_cases hie:i<=e
    ·exfalso
     by_cases hee:i=e
     ·subst hee
      obtain⟨y,hy,h7⟩:=g2.last;rw[hx] at hy;injection hy with hy
      rw[hy,h7] at h0;cases h0
     ·have:=EM h3 hh (by omega) hx
      unfold nW at this;simp[h0] at this
    ·exact FU n (e+1) (by omega) h4 i x (by omega) hx h0
structure mI (p:Q fw):Prop where
 len:p.length<=60
 head:∃ x:fw,p[0]?=D x/\x.li=0/\x.pu=tI/\x.fL = []
 line:∀(i:Nat) (x:fw),p[i]?=D x->oC x=M
 own:∀(i:Nat) (x:fw),p[i]?=D x->x.li=0->kz p x.pu=i
 my:(zq p).length<=6
 body:∀(i:Nat) (x:fw),p[i]?=D x->x.li=0->∃ e,gz p i e/\mE p i e=M
theorem qB (h:zx p=M):mI p:=by
 unfold zx at h;simp only[Rq,RC] at h;obtain⟨h1,h2,h3,h4,h5⟩:=h
 have hl:∀(i:Nat) (x:fw),p[i]?=D x->sI p i x=M:=fun i x hx=>by
  have:=EF p 0 i x h4 hx;rwa [RF] at this
 refine⟨h1,?_,fun i x hx=>?_,fun i x hx h0=>?_,h3,fun i x hx h0=>FU _ 0 K9 h5 i x (Rl _) hx h0⟩
 ·unfold qq at h2
  cases hp:p[0]? with
  | none=>rw[hp] at h2;cases h2
  | some x=>
   rw[hp] at h2;simp only[Rq,RC,TH] at h2;exact⟨x,rfl,h2⟩
 ·have:=hl i x hx
  unfold sI at this;simp only[Rq] at this;exact this.1
 ·have:=hl i x hx
  unfold sI at this;simp only[Rq,h0,TI,RC] at this;exact this.2
def jY (x:fw):fw:={ x with Expr:=if 0<x.Expr.length then rp x.Expr else x.Expr }
def qE (p:Q fw):Q fw:=if zx p=M then p.map jY else []
def gT (p q:Q fw):Prop:=p.map fw.li=q.map fw.li
theorem gT.len (h:gT p q):p.length=q.length:=by
 have:=Ta List.length h;simpa using this
theorem gT.at (h:gT p q)(i:Nat):(p[i]?).map fw.li=(q[i]?).map fw.li:=by
 have:=Ta (fun l=>l[i]?) h;simpa using this
theorem gT.get (h:gT p q){i:Nat}{x y:fw}(hx:p[i]?=D x)(hy:q[i]?=D y):x.li=y.li:=by
 have:=h.at i;rw[hx,hy] at this;simpa using this
theorem gT.ex (h:gT p q){i:Nat}{x:fw}(hx:p[i]?=D x):∃ y,q[i]?=D y/\x.li=y.li:=by
 have hl:=(Rd.1 hx).1;have hy:q[i]?=D (q[i]'(by rw[<-h.len];exact hl)):=Rn _;exact⟨_,hy,h.get hx hy⟩
theorem gT.symm {p q:Q fw}(h:gT p q):gT q p:=Eq.symm h
theorem LO (h:x.li=y.li):kU x=kU y:=by unfold kU;rw[h]
theorem gT.jp {p q:Q fw}(h:gT p q):∀ i,zL p i=zL q i
 | 0=>rfl
 | i+1=>by
  cases hx:p[i]? with
  | none=>
   have hl:p.length<=i:=SQ.1 hx;have h1:=gT.jp h i;unfold zL at h1 |-;rw[SR K9,SR (by rw[<-h.len];omega)];rw[SR hl,SR (by rw[<-h.len];omega)] at h1;exact h1
  | some x=>
   obtain⟨y,hy,hk⟩:=h.ex hx;rw[sY hx,sY hy,gT.jp h i,LO hk]
theorem gT.ends (h:gT p q){k e:Nat}(he:gz p k e):gz q k e:=by
 obtain⟨x,hx,ho⟩:=he.op;obtain⟨y,hy,hk⟩:=h.ex hx;exact⟨⟨y,hy,by rw[<-hk];exact ho⟩,he.lt,by rw[<-h.len];exact he.len,by rw[<-h.jp,<-h.jp];exact he.eq,fun i a b=>by rw[<-h.jp,<-h.jp];exact he.up i a b⟩
theorem gT.iV {p q:Q fw}(h:gT p q)(k:Int):iP p k=iP q k:=by
 rcases wB p k with h1 | ⟨a,e,rfl,h1,h2⟩
 ·rcases wB q k with g1 | ⟨a,e,rfl,g1,g2⟩
  ·rw[h1,g1]
  ·rw[(h.symm.ends g2).iV] at h1
   omega
 ·rw[h1,(h.ends h2).iV]
theorem gT.tN {p q:Q fw}(h:gT p q):∀(n i:Nat)(e:Int),oY p n i e=oY q n i e
 | 0,_,_=>rfl
 | n+1,i,e=>by
  unfold oY;by_cases hi:(i:Int)<e
  ·rw[Rs hi,Rs hi]
   cases hx:p[i]? with
   | none=>
    have:q[i]?=C:=SQ.2 (by rw[<-h.len];exact SQ.1 hx);rw[this]
   | some x=>
    obtain⟨y,hy,hk⟩:=h.ex hx;rw[hy];simp only[hk,h.iV,gT.tN h n]
  ·rw[Ro hi,Ro hi]
theorem gT.BM (h:gT p q)(k:Int):kh p k=kh q k:=by
 unfold kh;rw[h.iV];split
 ·rfl
 ·cases hx:p[k.toNat]? with
  | none=>
   have:q[k.toNat]?=C:=SQ.2 (by rw[<-h.len];exact SQ.1 hx);rw[this]
  | some x=>
   obtain⟨y,hy,hk⟩:=h.ex hx;rw[hy];simp only[hk,h.tN,h.len]
theorem CB (p:Q fw):gT p (p.map jY):=by
 unfold gT;rw[List.map_map];rfl
theorem Io (h:p[i]?=D x):(p.map jY)[i]?=D (jY x):=by simp[h]
theorem tX (h:(p.map jY)[i]?=D y):∃ x,p[i]?=D x/\y=jY x:=by
 simp only[UI,SU] at h;obtain⟨x,h1,h2⟩:=h;exact⟨x,h1,h2.symm⟩
theorem Fc:∀(l:Q fw)(i:Nat),lu (l.map jY) i=lu l i
 | [],_=>rfl
 | x::r,i=>by
  simp only[Sz,lu,Fc r];rfl
theorem xW (p:Q fw):zq (p.map jY)=zq p:=Fc p 0
theorem E1:∀(l:Q fw)(s:N)(i:Nat),oB (l.map jY) s i=oB l s i
 | [],_,_=>rfl
 | x::r,s,i=>by
  simp only[Sz,oB,E1 r];rfl
theorem KC (p:Q fw)(s:N):kz (p.map jY) s=kz p s:=E1 p s 0
theorem D8:∀(l:Q fw)(n:Nat)(out:Q N),oR (l.map jY) n out=oR l n out
 | _,0,_=>by cases ‹Q fw› <;> rfl
 | [],_+1,_=>rfl
 | x::r,n+1,out=>by
  simp only[Sz,oR,D8 r];rfl
theorem J7 (p:Q fw)(k:Int):zv (p.map jY) k=zv p k:=by
 unfold zv;rw[(CB p).symm.iV];split
 ·rfl
 ·cases hx:p[k.toNat]? with
  | none=>simp[hx]
  | some x=>
   rw[Io hx];simp only[<-List.map_drop,D8];rfl
structure j9 (p:Q fw):Prop where
 len:p.length<=60
 kind:∀(i:Nat) (x:fw),p[i]?=D x->fP x.li 0 7=M
 expr:∀(i:Nat) (x:fw),p[i]?=D x->rB x.li=M->∃ e:Ex,e.wf/\x.Expr=e.flat/\e.size<=20
 args:∀(i:Nat) (x:fw),p[i]?=D x->x.fL.length<=4
 name:∀(i:Nat) (x:fw),p[i]?=D x->x.li=0->kZ x.pu=M
 my:(zq p).length<=6
 body:∀(i:Nat) (x:fw),p[i]?=D x->x.li=0->∃ e,gz p i e/\(zv p i).length<=8/\
  ∀(j:Nat) (y:fw),i<j->j<e->p[j]?=D y->y.li≠0/\kG p (zv p i) y.Expr=M/\(y.li=4->∃ a,i<=a/\a<j/\ja p a j)/\(y.li=1->jG (zv p i) y.pu=M)
theorem sE (h:oC x=M):fP x.li 0 7=M/\wJ x=M/\pK x=M/\rG x=M:=by
 unfold oC at h;simpa only[Rq,Vj] using h
theorem LV (h:pK x=M):x.fL.length<=4:=by
 unfold pK at h;split at h
 ·unfold yG at h
  simp only[Rq,RC] at h;exact h.1
 ·simp only[RC] at h
  omega
theorem Oo {l r:Q N} (h:jG l s=M):jG (l++r) s=M:=by
 unfold jG at h |-;rw[List.any_append,h];rfl
theorem LR (out:Q N)(x:fw):x.li=1->jG (rz out x) x.pu=M:=by
 intro h;unfold rz;cases hn:jG out x.pu with
 | true=>rw[Ro II];exact hn
 | false=>
  rw[Rs ⟨h,rfl⟩];unfold jG;simp
theorem Kq {out:Q N} (h:jG out s=M):jG (rz out x) s=M:=by
 unfold rz;split
 ·exact Oo h
 ·exact h
theorem Ea:∀(l:Q fw)(n:Nat)(out:Q N)(s:N),jG out s=M->jG (oR l n out) s=M
 | _,0,out,s,h=>by cases ‹Q fw› <;> exact h
 | [],_+1,out,s,h=>h
 | x::r,n+1,out,s,h=>Ea r n _ s (Kq h)
theorem EG:∀(l:Q fw)(n i:Nat)(out:Q N)(x:fw),l[i]?=D x->i<n->x.li=1->jG (oR l n out) x.pu=M
 | [],_,_,_,_,h,_,_=>by simp at h
 | y::r,0,_,_,_,_,h,_=>K9
 | y::r,n+1,0,out,x,h,_,hk=>by
  simp only[RW,RT] at h;subst h;exact Ea r n _ _ (LR out y hk)
 | y::r,n+1,i+1,out,x,h,hi,hk=>EG r n i _ x (by simpa using h) K9 hk
theorem LD {j:Nat} (he:gz p k e)(hx:p[k]?=D x)(h0:x.li=0)(h1:k<j)(h2:j<e)(hy:p[j]?=D y)(hk:y.li=1):jG (zv p k) y.pu=M:=by
 unfold zv;rw[he.iV,Ro K9];simp only[Ry,hx,h0,TI];exact EG _ _ (j-k) _ y (by rw[TT,show k+(j-k)=j from K9];exact hy) K9 hk
theorem JK (h:nW p un k i x=M):x.li≠0/\(x.li=4->rE p k i=M)/\zL p (i+1)-zL p (k+1)<=4/\kG p un x.Expr=M:=by
 unfold nW at h;simp only[Rq,Uq,SJ,RC] at h;exact⟨h.1,fun h4=>by have:=h.2.1;rwa [Rs h4] at this,h.2.2.1,h.2.2.2⟩
theorem MK (h:rE p k i=M):∃ a,k<=a/\a<i/\ja p a i:=by
 unfold rE at h;rw[Ts] at h;obtain⟨a,h1,h2⟩:=h;rw[List.mem_range'_1] at h1;simp only[RC] at h2;rcases El p a with h3 | ⟨j,h3,h4⟩
 ·omega
 ·have:j=i:=K9
  subst this;exact⟨a,h1.1,K9,h4⟩
theorem mI.c (h:mI p):j9 p:=by
 refine⟨h.len,fun i x hx=>(sE (h.line i x hx)).1,fun i x hx he=>?_,fun i x hx=>LV (sE (h.line i x hx)).2.2.1,fun i x hx h0=>?_,h.my,fun i x hx h0=>?_⟩
 ·have h1:=(sE (h.line i x hx)).2.2.2
  unfold rG at h1;rw[Rs he] at h1;obtain⟨e,g1,g2,g3⟩:=EY h1;refine⟨e,g1,g2,?_⟩;rw[g2,e.gj] at g3;exact g3
 ·have h1:=(sE (h.line i x hx)).2.1
  unfold wJ at h1;rwa [Rs (.inl h0)] at h1
 ·obtain⟨e,h1,h2⟩:=h.body i x hx h0
  refine⟨e,h1,?_,fun j y a b hy=>?_⟩
  ·unfold mE at h2
   simp only[Rq,RC] at h2;exact h2.1
  ·obtain⟨g1,g2,_,g4⟩:=JK (EM h2 a b hy)
   exact⟨g1,g4,fun h4=>MK (g2 h4),fun h1'=>LD h1 hx h0 a b hy h1'⟩
theorem ja.xN (h:gT p q){a j:Nat}(he:ja p a j):ja q a j:=by
 obtain⟨x,hx,h3⟩:=he.iff;obtain⟨y,hy,hk⟩:=h.ex hx;obtain⟨z,hz,h4⟩:=he.BM;obtain⟨u,hu,a1⟩:=h.ex hz;obtain⟨e,g1,g2⟩:=he.iX;refine⟨⟨y,hy,by rw[<-hk];exact h3⟩,he.lt,⟨u,hu,by rw[<-a1];exact h4⟩,⟨e,h.ends g1,g2⟩,fun i x' b c d o n=>?_⟩;obtain⟨v,hv,a0⟩:=h.symm.ex d;obtain⟨e',w1,w2⟩:=he.out i v b c hv (by rw[<-a0];exact o) (by rw[<-a0];exact n);exact⟨e',h.ends w1,w2⟩
theorem J8 (p:Q fw)(un:Q N)(t:gB):lr (p.map jY) un t=lr p un t:=by
 unfold lr;rw[KC];split
 ·rfl
 ·split
  ·split
   ·rfl
   ·cases hx:p[(kz p t.pu).toNat]? with
    | none=>simp[hx]
    | some x=>rw[Io hx];rfl
  ·rfl
theorem Lc {t:gB} (h:t.li=0):lr p un t=M:=by
 unfold lr;rw[Ro K9,Ro K9]
theorem mI.fold {p:Q fw}(h:mI p):j9 (p.map jY):=by
 have hc:=h.c;have hk:=CB p
 have a0:∀(i:Nat) (x:fw),p[i]?=D x->rB x.li=M->∃ e:Ex,e.wf/\x.Expr=e.flat/\(jY x).Expr=e.fold/\e.size<=20:=fun i x hx he=>by
  have h1:=(sE (h.line i x hx)).2.2.2;unfold rG at h1;rw[Rs he] at h1;obtain⟨e,g1,g2,g3,g4⟩:=zm h1;have gs:=g3;rw[g2,e.gj] at gs;refine⟨e,g1,g2,?_,gs⟩;unfold jY;have:0<x.Expr.length:=by rw[g2,e.gj];exact e.size_pos
  simp only[Rs this];exact g4
 refine⟨by simpa using h.len,fun i y hy=>?_,fun i y hy he=>?_,fun i y hy=>?_,fun i y hy h0=>?_,by rw[xW];exact h.my,fun i y hy h0=>?_⟩
 ·obtain⟨x,hx,rfl⟩:=tX hy
  exact hc.kind i x hx
 ·obtain⟨x,hx,rfl⟩:=tX hy
  obtain⟨e,g1,g2,g3,g4⟩:=a0 i x hx he;obtain⟨e',w1,w2,w3⟩:=e.ig g1;exact⟨e',w1,by rw[g3,w2],K9⟩
 ·obtain⟨x,hx,rfl⟩:=tX hy
  exact hc.args i x hx
 ·obtain⟨x,hx,rfl⟩:=tX hy
  exact hc.name i x hx h0
 ·obtain⟨x,hx,rfl⟩:=tX hy
  obtain⟨e,h1,h2,h3⟩:=hc.body i x hx h0;rw[J7];refine⟨e,hk.ends h1,h2,fun j z a b hz=>?_⟩;obtain⟨u,hu,rfl⟩:=tX hz;obtain⟨g1,g2,g3,g4⟩:=h3 j u a b hu;refine⟨g1,?_,fun h4=>?_,g4⟩
  ·unfold kG at g2 |-
   rw[Td] at g2 |-;intro t ht;rw[J8];by_cases he:rB u.li=M
   ·obtain⟨e,w1,w2,w3,_⟩:=a0 j u hu he
    rw[w3] at ht;rcases e.jM t ht with h5 | h5
    ·exact g2 t (by rw[w2];exact h5)
    ·exact Lc h5
   ·have h1:=(sE (h.line j u hu)).2.2.2
    unfold rG at h1;rw[Ro he] at h1;simp only[RC] at h1;unfold jY at ht;simp only[h1,Uo,if_false] at ht;exact g2 t ht
  ·obtain⟨a',w1,w2,w3⟩:=g3 h4
   exact⟨a',w1,w2,w3.xN hk⟩
structure fX where
 p:Q fw
 inl:Int
 gY:Bool
 ww:Int
 args:Int
structure fH where
 f:Int
 io:Q Int
 un:Q N
 first:Int
 UV:Bool
 ut:Q Int
structure fT where
 pi:Q fM
 jp:Int
 gO:Int
 start:Bool
def fT.iN (m:fT)(l:Q fM):fT:=⟨l,m.jp,m.gO,m.start⟩
def fT.gw (m:fT)(d:Int):fT:=⟨m.pi,d,m.gO,m.start⟩
def fT.ke (m:fT)(d:Int):fT:=⟨m.pi,m.jp,d,m.start⟩
def fT.begun (m:fT):fT:=⟨m.pi,m.jp,m.gO,M⟩
def ud (E:fX)(m:fT)(code arg line:Int)(io:Q Int):fM:=
 ⟨⟨code,arg⟩,line,m.start,io,if (E.gY && decide (0<m.pi.length))=M then 0 else m.jp,E.gY && decide (0<m.pi.length)⟩
def zI (E:fX)(m:fT)(code arg line:Int)(io:Q Int):fT:=⟨m.pi++[ud E m code arg line io],m.jp,m.gO,I⟩
def pa (E:fX)(jp:Int)(s:fH)(i:Int)(store:Bool):Int × Int:=
 (if E.gY=M then (if store=M then 2 else 1) else (if store=M then 4 else 3),
  if E.gY=M then
   (if s.UV=M then (if i<E.args then 1+(E.args-i) else -1-(i-E.args)) else -1-(s.first+i))
  else (if s.UV=M then (if i<E.args then jp+(E.args-i) else jp-1-(i-E.args)) else jp-1-(s.first+i)))
def BH (E:fX)(m:fT)(s:fH)(i line:Int):fT:=
 (zI E m (pa E m.jp s i I).1 (pa E m.jp s i I).2 line s.io).gw (m.jp+1)
def ni (E:fX)(m:fT)(s:fH)(i line:Int)(io:Q Int):fT:=
 (zI E m (pa E m.jp s i M).1 (pa E m.jp s i M).2 line io).gw (m.jp-1)
def mg (E:fX)(m:fT)(v line:Int)(io:Q Int):fT:=
 (zI E m 0 v line io).gw (m.jp+1)
def mZ (E:fX)(fs:Q Int)(m:fT)(g:Int):Bool:=
 decide ((fs.length:Int)-1<E.inl) && (decide (iP E.p g-g<=9) && (decide ((m.pi.length:Int)<200) && !(fs.any fun f=>decide (f=g))))
def qV:Q N->N->Nat->Int
 | [],_,_=>-1
 | y::r,s,i=>if y=s then (i:Int) else qV r s (i+1)
def tg (p:Q fw)(g:Int):Int:=((zq p).filter fun k=>decide (k<g)).length
def oJ (E:fX)(rep:Int->fT->fT)(fs:Q Int)(s:fH)(k:Int)(t:gB)(m:fT):fT:=
 if t.li=0 then mg E m t.gZ k s.io
 else if t.li=1 then BH E m s (qV s.un t.pu 0) k
 else if t.li=7 then
  if mZ E fs m (kz E.p t.pu)=M then rep (kz E.p t.pu) m
  else (zI E m 12 (tg E.p (kz E.p t.pu)) k s.io).gw (m.jp-t.gZ+1)
 else (zI E m (5+t.li-2) 0 k s.io).gw (m.jp-1)
mutual
def Ex.comp (E:fX)(rep:Int->fT->fT)(fs:Q Int)(s:fH)(k:Int):Ex->fT->fT
 | .node t ks,m=>oJ E rep fs s k t (ks.comp E rep fs s k m)
def gu.comp (E:fX)(rep:Int->fT->fT)(fs:Q Int)(s:fH)(k:Int):gu->fT->fT
 | .nil,m=>m
 | .cons e r,m=>r.comp E rep fs s k (e.comp E rep fs s k m)
end
def mD (pi:Q fM)(j:Nat)(v:Int):Q fM:=match pi[j]? with
 | none=>pi
 | some x=>pi.set j { x with Op:=⟨x.Op.Code,v⟩ }
def WO (pi:Q fM)(js:Q Int)(v:Int):Q fM:=js.foldl (fun l j=>mD l j.toNat v) pi
def rA (E:fX)(x:fH)(k:Int)(io:Q Int):Nat->fT->fT
 | 0,m=>m
 | n+1,m=>rA E x k io n (ni E m x n k io)
def tE (E:fX)(x:fH)(k:Int)(io:Q Int):Nat->Nat->fT->fT
 | 0,_,m=>m
 | n+1,i,m=>tE E x k io n (i+1) (ni E (mg E m 0 k io) x i k io)
def iK (p:Q fw)(g:Int):Q N:=match p[g.toNat]? with
 | none=>[]
 | some x=>x.fL
def pt (E:fX)(s:fH):Int:=if s.UV=M then s.un.length-E.args else s.first+s.un.length
def kD (E:fX)(g k:Int)(s:fH):fH:=⟨g,s.io++[k],zv E.p g,pt E s,I,[]⟩
def qR (E:fX)(g k:Int)(s:fH)(m:fT):fT:=
 let x:=kD E g k s
 let m1:=m.ke (max m.gO (pt E s+x.un.length))
 let m2:=rA E x k s.io (iK E.p g).length m1
 let m3:=tE E x k s.io (x.un.length-(iK E.p g).length) (iK E.p g).length m2
 if m3.start=M then zI E m3 15 0 k s.io else m3
def jQ (E:fX)(lines:Q Int->fH->fT->fT × Q Int)(fs:Q Int)(k:Int)(s:fH)(g:Int)(m:fT):fT:=
 let m4:=qR E g k s m
 let r:=lines (fs++[g]) (kD E g k s) m4
 (r.1.iN (WO r.1.pi r.2 r.1.pi.length)).gw (m4.jp+1)
structure jk where
 m:fT
 ut:Q Int
 fN:Q Int
 fS:Q (Int × Int)
def nY (pi:Q fM)(fS:Q (Int × Int))(tgt v:Int):Q fM:=fS.foldl (fun l e=>if e.1=tgt then mD l e.2.toNat v else l) pi
def jk.wm (L:jk)(m:fT):jk:=⟨m,L.ut,L.fN,L.fS⟩
def lK (m:fT)(es:Q (Int × Int))(tgt:Int):fT:=m.iN (nY m.pi es tgt m.pi.length)
def kQ (E:fX)(s:fH)(k:Int)(last:Bool)(L:jk):jk:=
 if s.UV=M then
  (if E.gY=M then L.wm ((zI E L.m 14 E.args k s.io).gw (L.m.jp-1))
   else L.wm ((zI E L.m 16 (E.args+16*E.ww) k s.io).gw (L.m.jp-1)))
 else if last=M then L.wm (L.m.gw (L.m.jp-1))
 else ⟨(zI E L.m 10 0 k s.io).gw (L.m.jp-1),L.ut++[(L.m.pi.length:Int)],L.fN,L.fS⟩
def nR (p:Q fw)(k:Int)(item:Int):Nat->Nat->Q (Int × Int)
 | 0,_=>[]
 | n+1,i=>if kh p i=k then (iP p i+1,item)::nR p k item n (i+1) else nR p k item n (i+1)
def nH (E:fX)(k:Int)(io:Q Int)(fN:Q Int):Nat->Nat->fT->fT
 | 0,_,m=>m
 | n+1,i,m=>nH E k io fN n (i+1) (if iP E.p i=k/\(E.p[i]?.map fw.li)=D 5 then zI E m 10 (fN.getD i 0) k io else m)
def xB (E:fX)(rep:Int->fT->fT)(fs:Q Int)(s:fH)(k:Int)(xs:Q gB):Nat->Nat->Nat->fT->fT × Nat
 | 0,_,a,m=>(m,a)
 | _+1,0,a,m=>(m,a)
 | f+1,n+1,a,m=>match xs[a]? with
  | none=>(m,a)
  | some t=>xB E rep fs s k xs f n (xB E rep fs s k xs f (jo t).toNat (a+1) m).2 (oJ E rep fs s k t (xB E rep fs s k xs f (jo t).toNat (a+1) m).1)
theorem Cm {E:fX}{rep:Int->fT->fT}{fs:Q Int}{s:fH}{k:Int}{xs:Q gB}:∀(f:Nat)(ks:gu)(a:Nat)(r:Q gB)(m:fT),ks.wf->xs.drop a=ks.flat++r->ks.size<f->xB E rep fs s k xs f ks.len a m=(ks.comp E rep fs s k m,a+ks.size)
 | 0,_,_,_,_,_,_,hf=>K9
 | f+1,.nil,a,r,m,_,_,_=>rfl
 | f+1,.cons (.node t ks) q,a,r,m,h,hx,hf=>by
  simp only[gu.flat,Ex.flat,TQ,RU] at hx;simp only[gu.size,Ex.size] at hf;obtain⟨h1,h2⟩:=xp hx;simp only[gu.len,xB,h1];have e1:=Cm (E:=E) (rep:=rep) (fs:=fs) (s:=s) (k:=k) f ks (a+1) _ m h.1.2.2 h2 K9;rw[h.1.2.1,Ry,e1]
  have h3:xs.drop (a+1+ks.size)=q.flat++r:=by
   rw[<-Uf,h2,<-ks.gj,UH]
  rw[Cm f q _ r _ h.2 h3 K9];simp only[gu.comp,Ex.comp,gu.size,Ex.size];congr 1;omega
def tH (E:fX)(rep:Int->fT->fT)(fs:Q Int)(s:fH)(k:Int)(xs:Q gB)(m:fT):fT:=(xB E rep fs s k xs (xs.length+1) 1 0 m).1
theorem AT {E:fX} {rep:Int->fT->fT} {fs:Q Int} {s:fH} {k:Int} {m:fT} {e:Ex} (h:e.wf):tH E rep fs s k e.flat m=e.comp E rep fs s k m:=by
 unfold tH;have:=Cm (E:=E) (rep:=rep) (fs:=fs) (s:=s) (k:=k) (xs:=e.flat) (e.flat.length+1) (.cons e .nil) 0 [] m ⟨h,trivial⟩ (by simp[gu.flat]) (by simp only[gu.size,e.gj];omega);simp only[gu.len,RF] at this;rw[this];simp[gu.comp]
def lM (E:fX)(rep:Int->fT->fT)(fs:Q Int)(s:fH)(e k:Nat)(x:fw)(L:jk):jk:=
 let m0:=lK L.m L.fS k
 if x.li=4 then
  let ex:=L.fS++nR E.p k L.m.pi.length (k-s.f.toNat) s.f.toNat
  ⟨lK (zI E m0 10 0 k s.io) ex (-(k:Int)),L.ut,L.fN,ex⟩
 else if x.li=7 then
  if k=e then kQ E s k M (L.wm (mg E m0 0 k s.io))
  else L.wm (nH E k s.io L.fN (k-(s.f.toNat+1)) (s.f.toNat+1) m0)
 else
  let m1:=tH E rep fs s k x.Expr m0.begun
  let L1:jk:=⟨m1,L.ut,L.fN.set k L.m.pi.length,L.fS⟩
  if x.li=1 then L1.wm (ni E m1 s (qV s.un x.pu 0) k s.io)
  else if x.li=2 then L1.wm ((zI E m1 17 0 k s.io).gw (m1.jp-1))
  else if x.li=6 then kQ E s k I L1
  else ⟨(zI E m1 11 0 k s.io).gw (m1.jp-1),L.ut,L.fN.set k L.m.pi.length,L.fS++[(if x.li=3/\0<=kh E.p k then -(kh E.p k) else iP E.p k+1,(m1.pi.length:Int))]⟩
def p8 (E:fX)(rep:Int->Int->fT->fT)(fs:Q Int)(s:fH)(e:Nat):Q fw->Nat->Nat->jk->jk
 | _,0,_,L=>L
 | [],_+1,_,L=>L
 | x::r,n+1,k,L=>p8 E rep fs s e r n (k+1) (lM E (rep k) fs s e k x L)
def wI (E:fX)(rep:Q Int->fH->Int->Int->fT->fT)(fs:Q Int)(s:fH)(m:fT):fT × Q Int:=
 let e:=(iP E.p s.f).toNat
 let L:=p8 E (rep fs s) fs s e (E.p.drop (s.f.toNat+1)) (e-s.f.toNat) (s.f.toNat+1) ⟨m,s.ut,RN E.p.length 0,[]⟩
 (L.m,L.ut)
def jc (E:fX):Nat->Q Int->fH->fT->fT × Q Int
 | 0=>fun _ _ m=>(m,[])
 | d+1=>wI E fun fs s k g m=>jQ E (jc E d) fs k s g m
def lB (b:fY)(f:Nat):Bool:=decide (b.M2 / 2 ^ f % 2=1)
def kS (p:Q fw)(b:fY)(f:Nat)(ww:Int):Q fM × Int:=
 let line:=((zq p)[f]?).getD 0
 let args:=(iK p line).length
 let s:fH:=⟨line,[],zv p line,0,M,[]⟩
 let E:fX:=⟨p,b.IR,lB b f,ww,args⟩
 let m0:fT:=⟨[],0,(zv p line).length-args,I⟩
 let m1:=(zI E m0 (if lB b f=M then 13 else 15) ww line []).gw ww
 let r:=jc E 4 [line] s m1
 (r.1.pi,r.1.gO)
def jP (b:fY):Bool:=fP b.M2 0 63 && fP b.IR 0 3
def ki (p:Q fw)(b:fY)(f:Nat):Q fM:=
 let q:=if b.Wz=M then qE p else p
 (kS q b f (kS q b f 0).2).1
def kP (p:Q fw)(k:Int):Int:=((p[k.toNat]?).map fw.li).getD (-1)
end Go.Proofs.YthgbglbaemelhaaGreat
