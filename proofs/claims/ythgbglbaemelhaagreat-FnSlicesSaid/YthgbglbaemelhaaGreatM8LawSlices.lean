/-
  PART.
-/
import Derived.Test.YthgbglbaemelhaaGreatM7LawSlices
set_option linter.unusedVariables false
set_option linter.unusedSimpArgs false
set_option maxRecDepth 100000
set_option maxHeartbeats 8000000
namespace Go.Proofs.YthgbglbaemelhaaGreat
open Value renaming slice->G,int->J,bool->H
open IntKind renaming i64->C,wrap->QP
open Option renaming none->D,some->Z
open Obj renaming cells->F
open Bool renaming false->I,true->M
open Go renaming World->U,Calls->Rh,Addr->Ri
open World renaming cell?->QL
open _root_.Int renaming toNat_natCast->Ra
open List renaming replicate->Ro,getElem?_cons_zero->RA,cons_append->Tt,range'->TK
open RowKit renaming intOf->Ry
open Tryz
open Go.RowKit
variable {A0 A1 A2 A3:X Ri}{c0 c1 c2 c3 e i k:Nat}{locals:Q N}{m:fy}{p q:Q fv}{s:N}{w:U}{x y:fv}
def zM (m:fy):Bool:=decide (m.Stack.length=1200) && fT m.Sp 0 1200 && fT m.State 0 2
def jd (x:fK):Bool:=zU x.fo && fT x.fk.length 1 3 && fT x.fO 0 ((x.fk.length:Int)-1) && fT x.Slice 1 1000 && fT x.Left 1 x.Slice && x.fk.all zM
theorem zjP (hn:m.Stack.length<=1099511627776):Rh prog 46 #[.agg #[J C m.Pc,J C m.Sp,J C m.Fp,G A0 m.Stack.length c0,G A1 m.Out.length c1,J C m.State,J C m.Value]] w fun r w'=>r=.returned (H (zM m))/\ft w w':=by
 by_cases q:m.Stack.length=1200
 case neg=>
  have HQ:=fh (show zM m=I from by simp[zM,q]);have p1:((m.Stack.length:Int) == 1200)=I:=by simp;omega
  clear q;go_enter func46,ntmps46;go_wp2_with(fail);go_ret;exact⟨zo HQ.out.symm,gG⟩
 have p1:((m.Stack.length:Int) == 1200)=M:=by simp;omega
 obtain⟨b1,h1⟩:∃ b,fT m.Sp 0 1200=b:=⟨_,rfl⟩
 obtain⟨b2,h2⟩:∃ b,fT m.State 0 2=b:=⟨_,rfl⟩
 have HQ:=fh (show zM m=(b1 && b2) from by simp[zM,q,h1,h2]);have H1:=fh h1;have H2:=fh h2;clear q h1 h2;cases b1 with
 | false=>
  go_enter func46,ntmps46;go_wp2_with(go_at_call 38;(with_reducible refine(lP _ _ _ _).mono ?_);first | (rw[H1.out];rintro e w1 ⟨rfl,rfl⟩));go_ret;exact⟨zo HQ.out.symm,gG⟩
 | true=>
  go_enter func46,ntmps46;go_wp2_with(go_at_call 38;(with_reducible refine(lP _ _ _ _).mono ?_);first | (rw[H1.out];rintro e w1 ⟨rfl,rfl⟩) | (rw[H2.out];rintro e w1 ⟨rfl,rfl⟩));go_ret;exact⟨zo (by rw[HQ.out];rfl),gG⟩
theorem zjQ (hn:m.Stack.length<=1099511627776):Rh prog 42 #[.agg #[J C m.Pc,J C m.Sp,J C m.Fp,G A0 m.Stack.length c0,G A1 m.Out.length c1,J C m.State,J C m.Value]] w fun r w'=>r=.returned (H (zM m))/\ft w w':=by
 by_cases q:m.Stack.length=1200
 case neg=>
  have HQ:=fh (show zM m=I from by simp[zM,q]);have p1:((m.Stack.length:Int) == 1200)=I:=by simp;omega
  clear q;go_enter func42,ntmps42;go_wp2_with(fail);go_ret;exact⟨zo HQ.out.symm,gG⟩
 have p1:((m.Stack.length:Int) == 1200)=M:=by simp;omega
 obtain⟨b1,h1⟩:∃ b,fT m.Sp 0 1200=b:=⟨_,rfl⟩
 obtain⟨b2,h2⟩:∃ b,fT m.State 0 2=b:=⟨_,rfl⟩
 have HQ:=fh (show zM m=(b1 && b2) from by simp[zM,q,h1,h2]);have H1:=fh h1;have H2:=fh h2;clear q h1 h2;cases b1 with
 | false=>
  go_enter func42,ntmps42;go_wp2_with(go_at_call 43;(with_reducible refine(gY _ _ _ _).mono ?_);first | (rw[H1.out];rintro e w1 ⟨rfl,rfl⟩));go_ret;exact⟨zo HQ.out.symm,gG⟩
 | true=>
  go_enter func42,ntmps42;go_wp2_with(go_at_call 43;(with_reducible refine(gY _ _ _ _).mono ?_);first | (rw[H1.out];rintro e w1 ⟨rfl,rfl⟩) | (rw[H2.out];rintro e w1 ⟨rfl,rfl⟩));go_ret;exact⟨zo (by rw[HQ.out];rfl),gG⟩
theorem uU {g:Prop} (f:g:=by
  have HR:=fh (show jd x=M from by rw[HF.out,<-hE.out,Rq];rfl)
  clear hE
  go_wp2_with(fail)
  go_ret
  exact⟨zo HR.out.symm,hG0.trans gF⟩):g:=f
theorem zg0 {x:fK} (h0:(iL.sl 103).R w w.heap.size [G A0 x.fo.fq.length c0] x.fo.fq)(h1:(zr.sl 3).R w w.heap.size [G A1 x.fo.fu.length c1] x.fo.fu)
  (h2:(zr.sl 3).R w w.heap.size [G A2 x.fo.Entries.length c2] x.fo.Entries) (h3:(jX.sl 41).R w w.heap.size [G A3 x.fk.length c3] x.fk) (hs:zI x<=1099511627776) :
  Rh prog 13 #[.agg #[G A0 x.fo.fq.length c0,G A1 x.fo.fu.length c1,G A2 x.fo.Entries.length c2,G A3 x.fk.length c3,J C x.fO,J C x.Left,J C x.Slice]] w fun r w'=>r=.returned (H (jd x))/\ft w w':=by
 have a1:jP x.fo<=1099511627776:=by unfold zI at hs;omega
 have a5:lH lC x.fk<=1099511627776:=by unfold zI at hs;omega
 obtain⟨_,_,a6,aa,ab⟩:=lu h3;injection a6 with e1 e2 e3
 subst e1 e3;clear e2 hs;obtain⟨b0,q0⟩:∃ b,zU x.fo=b:=⟨_,rfl⟩
 obtain⟨b1,q1⟩:∃ b,fT x.fk.length 1 3=b:=⟨_,rfl⟩
 obtain⟨b2,q2⟩:∃ b,fT x.fO 0 ((x.fk.length:Int)-1)=b:=⟨_,rfl⟩
 obtain⟨b3,q3⟩:∃ b,fT x.Slice 1 1000=b:=⟨_,rfl⟩
 obtain⟨b4,q4⟩:∃ b,fT x.Left 1 x.Slice=b:=⟨_,rfl⟩
 have HQ:=fh (show jd x=(b0 && b1 && b2 && b3 && b4 && x.fk.all zM) from by unfold jd;rw[q0,q1,q2,q3,q4]);have H0:=fh q0;have H1:=fh q1;have H2:=fh q2;have H3:=fh q3;have H4:=fh q4;have w1:QP C ((x.fk.length:Int)-1)=(x.fk.length:Int)-1:=iw;clear q0 q1 q2 q3 q4;cases b0 with
 | false=>
  have HF:=fh (show jd x=I from by rw[HQ.out];simp);go_enter func13,ntmps13;go_wp2_with(go_at_call 45;(with_reducible refine(zeM (s:=x.fo) (Ty.up _ h0 gG) (Ty.up _ h1 gG) (Ty.up _ h2 gG) a1).mono ?_);rw[H0.out];rintro e w1 ⟨rfl,a0,d1,rfl⟩);go_ret;exact⟨zo HF.out.symm,gG⟩
 | true=>
 cases b1 with
 | false=>
  have HF:=fh (show jd x=I from by rw[HQ.out];simp);go_enter func13,ntmps13
  go_wp2_with(first
   | (go_at_call 45;(with_reducible refine(zeM (s:=x.fo) (Ty.up _ h0 gG) (Ty.up _ h1 gG) (Ty.up _ h2 gG) a1).mono ?_);rw[H0.out];rintro e w1 ⟨rfl,a0,d1,rfl⟩)
   | (go_at_call 38;(with_reducible refine(lP _ _ _ _).mono ?_);first | (rw[H1.out];rintro e w1 ⟨rfl,rfl⟩)))
  go_ret;exact⟨zo HF.out.symm,gG⟩
 | true=>
 cases b2 with
 | false=>
  have HF:=fh (show jd x=I from by rw[HQ.out];simp);go_enter func13,ntmps13
  go_wp2_with(first
   | (go_at_call 45;(with_reducible refine(zeM (s:=x.fo) (Ty.up _ h0 gG) (Ty.up _ h1 gG) (Ty.up _ h2 gG) a1).mono ?_);rw[H0.out];rintro e w1 ⟨rfl,a0,d1,rfl⟩)
   | (go_at_call 38;(with_reducible refine(lP _ _ _ _).mono ?_);first | (rw[H1.out];rintro e w1 ⟨rfl,rfl⟩) | (rw[H2.out];rintro e w1 ⟨rfl,rfl⟩)))
  go_ret;exact⟨zo HF.out.symm,gG⟩
 | true=>
 cases b3 with
 | false=>
  have HF:=fh (show jd x=I from by rw[HQ.out];simp);go_enter func13,ntmps13
  go_wp2_with(first
   | (go_at_call 45;(with_reducible refine(zeM (s:=x.fo) (Ty.up _ h0 gG) (Ty.up _ h1 gG) (Ty.up _ h2 gG) a1).mono ?_);rw[H0.out];rintro e w1 ⟨rfl,a0,d1,rfl⟩)
   | (go_at_call 38;(with_reducible refine(lP _ _ _ _).mono ?_);first | (rw[H1.out];rintro e w1 ⟨rfl,rfl⟩) | (rw[H2.out];rintro e w1 ⟨rfl,rfl⟩) | (rw[H3.out];rintro e w1 ⟨rfl,rfl⟩)))
  go_ret;exact⟨zo HF.out.symm,gG⟩
 | true=>
 cases b4 with
 | false=>
  have HF:=fh (show jd x=I from by rw[HQ.out];simp);go_enter func13,ntmps13
  go_wp2_with(first
   | (go_at_call 45;(with_reducible refine(zeM (s:=x.fo) (Ty.up _ h0 gG) (Ty.up _ h1 gG) (Ty.up _ h2 gG) a1).mono ?_);rw[H0.out];rintro e w1 ⟨rfl,a0,d1,rfl⟩)
   | (go_at_call 38;(with_reducible refine(lP _ _ _ _).mono ?_);first | (rw[H1.out];rintro e w1 ⟨rfl,rfl⟩) | (rw[H2.out];rintro e w1 ⟨rfl,rfl⟩) | (rw[H3.out];rintro e w1 ⟨rfl,rfl⟩) | (rw[H4.out];rintro e w1 ⟨rfl,rfl⟩)))
  go_ret;exact⟨zo HF.out.symm,gG⟩
 | true=>
 have HF:=fh (show jd x=x.fk.all zM from by rw[HQ.out];simp);go_enter func13,ntmps13
 go_wp2_with(first
   | (go_at_call 45;(with_reducible refine(zeM (s:=x.fo) (Ty.up _ h0 gG) (Ty.up _ h1 gG) (Ty.up _ h2 gG) a1).mono ?_);rw[H0.out];rintro e w1 ⟨rfl,a0,d1,rfl⟩)
   | (go_at_call 38;(with_reducible refine(lP _ _ _ _).mono ?_);first | (rw[H1.out];rintro e w1 ⟨rfl,rfl⟩) | (rw[H2.out];rintro e w1 ⟨rfl,rfl⟩) | (rw[H3.out];rintro e w1 ⟨rfl,rfl⟩) | (rw[H4.out];rintro e w1 ⟨rfl,rfl⟩)))
 have hG0:ft w (fx (w.alloc (F #[G A0 x.fo.fq.length c0,G A1 x.fo.fu.length c1,G A2 x.fo.Entries.length c2,G A3 x.fk.length c3,J C x.fO,J C x.Left,J C x.Slice] 34)) a0 d1):=gG;have eb:(fx (w.alloc (F #[G A0 x.fo.fq.length c0,G A1 x.fo.fu.length c1,G A2 x.fo.Entries.length c2,G A3 x.fk.length c3,J C x.fO,J C x.Left,J C x.Slice] 34)) a0 d1).heap[w.heap.size]?=Z (F #[G A0 x.fo.fq.length c0,G A1 x.fo.fu.length c1,G A2 x.fo.Entries.length c2,G A3 x.fk.length c3,J C x.fO,J C x.Left,J C x.Slice] 34 (0,0)):=zj (QO w _) gF;have k3:=Ty.up _ h3 hG0;obtain⟨g0,a3⟩:∃ g0,w.heap.size=g0:=⟨_,rfl⟩
 rw[a3] at eb |-;generalize (fx (w.alloc _) a0 d1)=Y at hG0 eb k3 |-;have hc:=fun k=>RV Y g0 k _ _ (0,0) eb;have y1:QL Y ⟨g0,3,D⟩=Z (G A3 x.fk.length c3):=hc 3;have yl:g0<Y.heap.size:=(blt eb)
 clear h0 h1 h2 h3 a3 hc eb;go_loopw [43] (fun z wr=>∃ k:Nat,z=J C k/\k<=x.fk.length/\Hid ((x.fk.drop k).all zM=x.fk.all zM)/\Hid (ft Y wr)) (fun z _=>x.fk.length-(Ry z).toNat)
 case atStart=>exact⟨0,rfl,QX _,fh rfl,fh (ft.refl _)⟩
 case round=>
  obtain⟨k,rfl,hk,hE,hG⟩:=hrel;obtain⟨os,d,rfl⟩:=hG.out;clear hG;have ad:=zd y1 os d;by_cases hlt:k<x.fk.length
  ·obtain⟨g,ac,y,Aa,ca,Ab,cb,rfl,a8,a2,m0,m1,m2,m3,m4,m5,m6,_⟩:=yZ k3 hlt
   have ha:=AY a2 zM;rw[hE.out] at ha;have n0:=zd m0 os d;have n1:=zd m1 os d;have n2:=zd m2 os d;have n3:=zd m3 os d;have n4:=zd m4 os d;have n5:=zd m5 os d;have n6:=zd m6 os d;have a9:(k:Int)<(x.fk.length:Int):=by omega
   have a4:y.Stack.length<=1099511627776:=by have h1:=vM lC a2;unfold lC at h1 a5;omega
   obtain⟨b,hb⟩:∃ b,zM y=b:=⟨_,rfl⟩
   rw[hb] at ha;have HB:=fh hb;clear hb a2 hE m0 m1 m2 m3 m4 m5 m6;cases b with
   | false=>
    have HR:=fh (show jd x=I from by rw[HF.out,ha];rfl);clear ha;go_wp2_with(go_at_call 46;(with_reducible refine(zjP (m:=y) a4).mono ?_);rw[HB.out];rintro e w2 ⟨rfl,a7,d2,rfl⟩);go_ret;exact⟨zo HR.out.symm,hG0.trans gF⟩
   | true=>
    have HR:=fh (show (x.fk.drop (k+1)).all zM=x.fk.all zM from by rw[ha];rfl);clear ha;go_wp2_with(go_at_call 46;(with_reducible refine(zjP (m:=y) a4).mono ?_);rw[HB.out];rintro e w2 ⟨rfl,a7,d2,rfl⟩);go_roundw;exact⟨k+1,by go_num,by omega,HR,fh gG⟩;exact gH
  ·obtain rfl:k=x.fk.length:=by omega
   exact uU
theorem ziK {x:fK} (h0:(iL.sl 103).R w w.heap.size [G A0 x.fo.fq.length c0] x.fo.fq)(h1:(zr.sl 3).R w w.heap.size [G A1 x.fo.fu.length c1] x.fo.fu)
  (h2:(zr.sl 3).R w w.heap.size [G A2 x.fo.Entries.length c2] x.fo.Entries) (h3:(jX.sl 41).R w w.heap.size [G A3 x.fk.length c3] x.fk) (hs:zI x<=1099511627776) :
  Rh prog 47 #[.agg #[G A0 x.fo.fq.length c0,G A1 x.fo.fu.length c1,G A2 x.fo.Entries.length c2,G A3 x.fk.length c3,J C x.fO,J C x.Left,J C x.Slice]] w fun r w'=>r=.returned (H (jd x))/\ft w w':=by
 have a1:jP x.fo<=1099511627776:=by unfold zI at hs;omega
 have a5:lH lC x.fk<=1099511627776:=by unfold zI at hs;omega
 obtain⟨_,_,a6,aa,ab⟩:=lu h3;injection a6 with e1 e2 e3
 subst e1 e3;clear e2 hs;obtain⟨b0,q0⟩:∃ b,zU x.fo=b:=⟨_,rfl⟩
 obtain⟨b1,q1⟩:∃ b,fT x.fk.length 1 3=b:=⟨_,rfl⟩
 obtain⟨b2,q2⟩:∃ b,fT x.fO 0 ((x.fk.length:Int)-1)=b:=⟨_,rfl⟩
 obtain⟨b3,q3⟩:∃ b,fT x.Slice 1 1000=b:=⟨_,rfl⟩
 obtain⟨b4,q4⟩:∃ b,fT x.Left 1 x.Slice=b:=⟨_,rfl⟩
 have HQ:=fh (show jd x=(b0 && b1 && b2 && b3 && b4 && x.fk.all zM) from by unfold jd;rw[q0,q1,q2,q3,q4]);have H0:=fh q0;have H1:=fh q1;have H2:=fh q2;have H3:=fh q3;have H4:=fh q4;have w1:QP C ((x.fk.length:Int)-1)=(x.fk.length:Int)-1:=iw;clear q0 q1 q2 q3 q4;cases b0 with
 | false=>
  have HF:=fh (show jd x=I from by rw[HQ.out];simp);go_enter func47,ntmps47;go_wp2_with(go_at_call 41;(with_reducible refine(zbU (s:=x.fo) (Ty.up _ h0 gG) (Ty.up _ h1 gG) (Ty.up _ h2 gG) a1).mono ?_);rw[H0.out];rintro e w1 ⟨rfl,a0,d1,rfl⟩);go_ret;exact⟨zo HF.out.symm,gG⟩
 | true=>
 cases b1 with
 | false=>
  have HF:=fh (show jd x=I from by rw[HQ.out];simp);go_enter func47,ntmps47
  go_wp2_with(first
   | (go_at_call 41;(with_reducible refine(zbU (s:=x.fo) (Ty.up _ h0 gG) (Ty.up _ h1 gG) (Ty.up _ h2 gG) a1).mono ?_);rw[H0.out];rintro e w1 ⟨rfl,a0,d1,rfl⟩)
   | (go_at_call 43;(with_reducible refine(gY _ _ _ _).mono ?_);first | (rw[H1.out];rintro e w1 ⟨rfl,rfl⟩)))
  go_ret;exact⟨zo HF.out.symm,gG⟩
 | true=>
 cases b2 with
 | false=>
  have HF:=fh (show jd x=I from by rw[HQ.out];simp);go_enter func47,ntmps47
  go_wp2_with(first
   | (go_at_call 41;(with_reducible refine(zbU (s:=x.fo) (Ty.up _ h0 gG) (Ty.up _ h1 gG) (Ty.up _ h2 gG) a1).mono ?_);rw[H0.out];rintro e w1 ⟨rfl,a0,d1,rfl⟩)
   | (go_at_call 43;(with_reducible refine(gY _ _ _ _).mono ?_);first | (rw[H1.out];rintro e w1 ⟨rfl,rfl⟩) | (rw[H2.out];rintro e w1 ⟨rfl,rfl⟩)))
  go_ret;exact⟨zo HF.out.symm,gG⟩
 | true=>
 cases b3 with
 | false=>
  have HF:=fh (show jd x=I from by rw[HQ.out];simp);go_enter func47,ntmps47
  go_wp2_with(first
   | (go_at_call 41;(with_reducible refine(zbU (s:=x.fo) (Ty.up _ h0 gG) (Ty.up _ h1 gG) (Ty.up _ h2 gG) a1).mono ?_);rw[H0.out];rintro e w1 ⟨rfl,a0,d1,rfl⟩)
   | (go_at_call 43;(with_reducible refine(gY _ _ _ _).mono ?_);first | (rw[H1.out];rintro e w1 ⟨rfl,rfl⟩) | (rw[H2.out];rintro e w1 ⟨rfl,rfl⟩) | (rw[H3.out];rintro e w1 ⟨rfl,rfl⟩)))
  go_ret;exact⟨zo HF.out.symm,gG⟩
 | true=>
 cases b4 with
 | false=>
  have HF:=fh (show jd x=I from by rw[HQ.out];simp);go_enter func47,ntmps47
  go_wp2_with(first
   | (go_at_call 41;(with_reducible refine(zbU (s:=x.fo) (Ty.up _ h0 gG) (Ty.up _ h1 gG) (Ty.up _ h2 gG) a1).mono ?_);rw[H0.out];rintro e w1 ⟨rfl,a0,d1,rfl⟩)
   | (go_at_call 43;(with_reducible refine(gY _ _ _ _).mono ?_);first | (rw[H1.out];rintro e w1 ⟨rfl,rfl⟩) | (rw[H2.out];rintro e w1 ⟨rfl,rfl⟩) | (rw[H3.out];rintro e w1 ⟨rfl,rfl⟩) | (rw[H4.out];rintro e w1 ⟨rfl,rfl⟩)))
  go_ret;exact⟨zo HF.out.symm,gG⟩
 | true=>
 have HF:=fh (show jd x=x.fk.all zM from by rw[HQ.out];simp);go_enter func47,ntmps47
 go_wp2_with(first
   | (go_at_call 41;(with_reducible refine(zbU (s:=x.fo) (Ty.up _ h0 gG) (Ty.up _ h1 gG) (Ty.up _ h2 gG) a1).mono ?_);rw[H0.out];rintro e w1 ⟨rfl,a0,d1,rfl⟩)
   | (go_at_call 43;(with_reducible refine(gY _ _ _ _).mono ?_);first | (rw[H1.out];rintro e w1 ⟨rfl,rfl⟩) | (rw[H2.out];rintro e w1 ⟨rfl,rfl⟩) | (rw[H3.out];rintro e w1 ⟨rfl,rfl⟩) | (rw[H4.out];rintro e w1 ⟨rfl,rfl⟩)))
 have hG0:ft w (fx (w.alloc (F #[G A0 x.fo.fq.length c0,G A1 x.fo.fu.length c1,G A2 x.fo.Entries.length c2,G A3 x.fk.length c3,J C x.fO,J C x.Left,J C x.Slice] 34)) a0 d1):=gG;have eb:(fx (w.alloc (F #[G A0 x.fo.fq.length c0,G A1 x.fo.fu.length c1,G A2 x.fo.Entries.length c2,G A3 x.fk.length c3,J C x.fO,J C x.Left,J C x.Slice] 34)) a0 d1).heap[w.heap.size]?=Z (F #[G A0 x.fo.fq.length c0,G A1 x.fo.fu.length c1,G A2 x.fo.Entries.length c2,G A3 x.fk.length c3,J C x.fO,J C x.Left,J C x.Slice] 34 (0,0)):=zj (QO w _) gF;have k3:=Ty.up _ h3 hG0;obtain⟨g0,a3⟩:∃ g0,w.heap.size=g0:=⟨_,rfl⟩
 rw[a3] at eb |-;generalize (fx (w.alloc _) a0 d1)=Y at hG0 eb k3 |-;have hc:=fun k=>RV Y g0 k _ _ (0,0) eb;have y1:QL Y ⟨g0,3,D⟩=Z (G A3 x.fk.length c3):=hc 3;have yl:g0<Y.heap.size:=(blt eb)
 clear h0 h1 h2 h3 a3 hc eb;go_loopw [3] (fun z wr=>∃ k:Nat,z=J C k/\k<=x.fk.length/\Hid ((x.fk.drop k).all zM=x.fk.all zM)/\Hid (ft Y wr)) (fun z _=>x.fk.length-(Ry z).toNat)
 case atStart=>exact⟨0,rfl,QX _,fh rfl,fh (ft.refl _)⟩
 case round=>
  obtain⟨k,rfl,hk,hE,hG⟩:=hrel;obtain⟨os,d,rfl⟩:=hG.out;clear hG;have ad:=zd y1 os d;by_cases hlt:k<x.fk.length
  ·obtain⟨g,ac,y,Aa,ca,Ab,cb,rfl,a8,a2,m0,m1,m2,m3,m4,m5,m6,_⟩:=yZ k3 hlt
   have ha:=AY a2 zM;rw[hE.out] at ha;have n0:=zd m0 os d;have n1:=zd m1 os d;have n2:=zd m2 os d;have n3:=zd m3 os d;have n4:=zd m4 os d;have n5:=zd m5 os d;have n6:=zd m6 os d;have a9:(k:Int)<(x.fk.length:Int):=by omega
   have a4:y.Stack.length<=1099511627776:=by have h1:=vM lC a2;unfold lC at h1 a5;omega
   obtain⟨b,hb⟩:∃ b,zM y=b:=⟨_,rfl⟩
   rw[hb] at ha;have HB:=fh hb;clear hb a2 hE m0 m1 m2 m3 m4 m5 m6;cases b with
   | false=>
    have HR:=fh (show jd x=I from by rw[HF.out,ha];rfl);clear ha;go_wp2_with(go_at_call 42;(with_reducible refine(zjQ (m:=y) a4).mono ?_);rw[HB.out];rintro e w2 ⟨rfl,a7,d2,rfl⟩);go_ret;exact⟨zo HR.out.symm,hG0.trans gF⟩
   | true=>
    have HR:=fh (show (x.fk.drop (k+1)).all zM=x.fk.all zM from by rw[ha];rfl);clear ha;go_wp2_with(go_at_call 42;(with_reducible refine(zjQ (m:=y) a4).mono ?_);rw[HB.out];rintro e w2 ⟨rfl,a7,d2,rfl⟩);go_roundw;exact⟨k+1,by go_num,by omega,HR,fh gG⟩;exact gH
  ·obtain rfl:k=x.fk.length:=by omega
   exact uU
def jJ (n:Int):Int:=(n+2147483648) % 4294967296-2147483648
def zR (code a b:Int):Int:=
 if code=5 then jJ (jJ a+jJ b)
 else if code=6 then jJ (jJ a-jJ b)
 else if code=7 then jJ (jJ a*jJ b)
 else if code=8 then (if jJ a<jJ b then 1 else 0)
 else if code=9 then (if jJ a=jJ b then 1 else 0)
 else 0
def mO (m:fy)(a:Int):X Int:=if fT a 0 1199=M then m.Stack[a.toNat]? else D
def iD (m:fy)(v:Int):X fy:=if fT m.Sp 1 1200=M then Z { m with Sp:=m.Sp-1,Stack:=m.Stack.set (m.Sp-1).toNat v } else D
def iq (m:fy):X (fy × Int):=(mO m m.Sp).map fun v=>({ m with Sp:=m.Sp+1 },v)
def nu (m:fy)(a v:Int):X fy:=if fT a 0 1199=M then Z { m with Stack:=m.Stack.set a.toNat v } else D
def jQ:Nat->fy->X fy
 | 0,m=>Z m
 | n+1,m=>(iq m).bind fun p=>jQ n p.1
def ri:Nat->fy->X fy
 | 0,m=>Z m
 | n+1,m=>(iD m 0).bind fun m'=>ri n m'
def zO (es:Q Int)(m:fy)(code arg:Int):X fy:=
 if code=0 then iD m arg
 else if code=1 then (mO m (m.Fp+arg)).bind fun v=>iD m v
 else if code=3 then (mO m (m.Sp+arg)).bind fun v=>iD m v
 else if code=2 then (iq m).bind fun p=>nu p.1 (m.Fp+arg) p.2
 else if code=4 then (iq m).bind fun p=>nu p.1 (m.Sp+arg) p.2
 else if code=10 then Z { m with Pc:=m.Pc+arg }
 else if code=11 then (iq m).map fun p=>if p.2=0 then { p.1 with Pc:=p.1.Pc+arg } else p.1
 else if code=12 then (iD m m.Pc).bind fun m'=>(es[arg.toNat]?).map fun e=>{ m' with Pc:=e }
 else if code=13 then (iD m m.Fp).bind fun m'=>ri arg.toNat { m' with Fp:=m'.Sp }
 else if code=15 then ri arg.toNat m
 else if code=14 then (iq m).bind fun p=>(iq { p.1 with Sp:=p.1.Fp }).bind fun q=>(iq { q.1 with Fp:=q.2 }).bind fun r=>(jQ arg.toNat { r.1 with Pc:=r.2 }).bind fun m'=>iD m' p.2
 else if code=16 then (iq m).bind fun p=>(jQ (arg.toNat / 16) p.1).bind fun m1=>(iq m1).bind fun r=>(jQ (arg.toNat % 16) { r.1 with Pc:=r.2 }).bind fun m'=>iD m' p.2
 else if code=17 then (iq m).map fun p=>{ p.1 with Out:=p.1.Out++[p.2] }
 else (iq m).bind fun p=>(iq p.1).bind fun q=>iD q.1 (zR code q.2 p.2)
def ny (m:fy):X fy:=if m.Pc=0 then (mO m m.Sp).map fun v=>{ m with State:=1,Value:=v } else Z m
def kW (s:gv)(m:fy):fy:=
 let l:=loc s m.Pc
 match (if l.1<0 then D else s.fq[l.1.toNat]?) with
 | none=>{ m with State:=2 }
 | some i=>
  let r:=jh i.Code l.2
  if r.ok=M then (((zO s.Entries { m with Pc:=m.Pc+r.n } r.code r.arg).bind ny).getD { m with State:=2 }) else { m with State:=2 }
def rX (v:Int):gB:=⟨0,v,emp⟩
def om (t:gB)(l:Q gB):Q gB:=
 match l with
 | [a,b]=>if fT t.Kind 2 6=M/\a.Kind=0/\b.Kind=0/\fT (zR (t.Kind+3) a.gW b.gW) 0 999=M then [rX (zR (t.Kind+3) a.gW b.gW)] else t::l
 | _=>t::l
mutual
def Ex.fold:Ex->Q gB
 | .node t ks=>om t ks.fold
def gk.fold:gk->Q gB
 | .nil=>[]
 | .cons e r=>e.fold++r.fold
end
theorem yN (t:gB)(l:Q gB):om t l=t::l∨∃ a b,l = [a,b]/\fT t.Kind 2 6=M/\a.Kind=0/\b.Kind=0/\fT (zR (t.Kind+3) a.gW b.gW) 0 999=M/\om t l = [rX (zR (t.Kind+3) a.gW b.gW)]:=by
 unfold om;split
 ·rename_i a b
  by_cases h:fT t.Kind 2 6=M/\a.Kind=0/\b.Kind=0/\fT (zR (t.Kind+3) a.gW b.gW) 0 999=M
  ·rw[Q5 h]
   exact .inr ⟨a,b,rfl,h.1,h.2.1,h.2.2.1,h.2.2.2,rfl⟩
  ·rw[QZ h];exact .inl rfl
 ·exact .inl rfl
theorem F8 {v:Int} (h:fT v 0 999=M):lh (rX v)=M:=by
 unfold lh rX;simp[h]
mutual
theorem Ex.ic:∀ e:Ex,e.wf->∃ e':Ex,e'.wf/\e'.flat=e.fold/\e'.size<=e.size
 | .node t ks,h=>by
  obtain⟨h1,h2,h3⟩:=h;obtain⟨a0,g1,g2,g3,g4⟩:=gk.ic ks h3;simp only[Ex.fold,Ex.size];rcases yN t ks.fold with hf | ⟨a,b,_,_,_,_,hv,hf⟩
  ·rw[hf]
   exact⟨.node t a0,⟨h1,by rw[g2];exact h2,g1⟩,by simp only[Ex.flat,g3],by simp only[Ex.size];omega⟩
  ·rw[hf]
   refine⟨.node (rX (zR (t.Kind+3) a.gW b.gW)) .nil,⟨F8 hv,?_,trivial⟩,rfl,by simp only[Ex.size,gk.size];omega⟩;unfold jk;rw[Q5 (F8 hv)];rfl
theorem gk.ic:∀ ks:gk,ks.wf->∃ ks':gk,ks'.wf/\ks'.len=ks.len/\ks'.flat=ks.fold/\ks'.size<=ks.size
 | .nil,_=>⟨.nil,trivial,rfl,rfl,Q8 _⟩
 | .cons e r,h=>by
  obtain⟨e',h1,h2,h3⟩:=Ex.ic e h.1;obtain⟨r',g1,g2,g3,g4⟩:=gk.ic r h.2;exact⟨.cons e' r',⟨h1,g1⟩,by simp only[gk.len,g2],by simp only[gk.flat,gk.fold,h2,g3],by simp only[gk.size];omega⟩
end
mutual
theorem Ex.jH:∀(e:Ex)(t:gB),t∈e.fold->t∈e.flat∨t.Kind=0
 | .node t ks,u,h=>by
  simp only[Ex.fold] at h;simp only[Ex.flat,Rp];rcases yN t ks.fold with hf | ⟨a,b,_,_,_,_,hv,hf⟩
  ·rw[hf] at h
   rcases Rp.1 h with h | h
   ·exact .inl (.inl h)
   ·rcases gk.jH ks u h with h | h
    ·exact .inl (.inr h)
    ·exact .inr h
  ·rw[hf] at h
   rw[QN.1 h];exact .inr rfl
theorem gk.jH:∀(ks:gk)(t:gB),t∈ks.fold->t∈ks.flat∨t.Kind=0
 | .nil,u,h=>by simp[gk.fold] at h
 | .cons e r,u,h=>by
  simp only[gk.fold,Q7] at h;simp only[gk.flat,Q7];rcases h with h | h
  ·rcases Ex.jH e u h with h | h
   ·exact .inl (.inl h)
   ·exact .inr h
  ·rcases gk.jH r u h with h | h
   ·exact .inl (.inr h)
   ·exact .inr h
end
def tE (xs:Q gB):Nat->Nat->Nat->Q gB × Nat
 | 0,_,a=>([],a)
 | _+1,0,a=>([],a)
 | f+1,n+1,a=>match xs[a]? with
  | none=>([],a)
  | some t=>(om t (tE xs f (jk t).toNat (a+1)).1++(tE xs f n (tE xs f (jk t).toNat (a+1)).2).1,(tE xs f n (tE xs f (jk t).toNat (a+1)).2).2)
theorem Ch {xs:Q gB}:∀(f:Nat)(ks:gk)(a:Nat)(r:Q gB),ks.wf->xs.drop a=ks.flat++r->ks.size<f->tE xs f ks.len a=(ks.fold,a+ks.size)
 | 0,_,_,_,_,_,hf=>by omega
 | f+1,.nil,a,r,_,_,_=>rfl
 | f+1,.cons (.node t ks) q,a,r,h,hx,hf=>by
  simp only[gk.flat,Ex.flat,Tt,Rw] at hx;simp only[gk.size,Ex.size] at hf;obtain⟨h1,h2⟩:=wO hx;simp only[gk.len,tE,h1];have e1:=Ch f ks (a+1) _ h.1.2.2 h2 (by omega);rw[h.1.2.1,Ra,e1]
  have h3:xs.drop (a+1+ks.size)=q.flat++r:=by
   rw[<-TH,h2,<-ks.gj,Ul]
  rw[Ch f q _ r h.2 h3 (by omega)];simp only[gk.fold,Ex.fold,gk.size,Ex.size];congr 1;omega
def qQ (xs:Q gB):Q gB:=if py xs=M then (tE xs (xs.length+1) 1 0).1 else []
theorem Kr {e:Ex} (h:e.wf)(hx:py e.flat=M):qQ e.flat=e.fold:=by
 unfold qQ;rw[Q5 hx];have:=Ch (xs:=e.flat) (e.flat.length+1) (.cons e .nil) 0 [] ⟨h,trivial⟩ (by simp[gk.flat]) (by simp only[gk.size,e.gj];omega);simp only[gk.len,Rk] at this;rw[this];simp[gk.fold]
theorem yH {xs:Q gB} (h:py xs=M):∃ e:Ex,e.wf/\xs=e.flat/\xs.length<=20/\qQ xs=e.fold:=by
 obtain⟨e,h1,h2,h3⟩:=Eo h;subst h2;exact⟨e,h1,rfl,h3,Kr h1 h⟩
mutual
theorem Ex.uniq:∀(e e':Ex),e.wf->e'.wf->∀(r r':Q gB),e.flat++r=e'.flat++r'->e=e'/\r=r'
 | .node t ks,.node t' ks',h,h',r,r',hx=>by
  simp only[Ex.flat,Tt,TB] at hx;obtain⟨rfl,hx⟩:=hx;obtain⟨h1,h2⟩:=gk.uniq ks ks' h.2.2 h'.2.2 (by have:=h.2.1;have:=h'.2.1;omega) r r' hx;exact⟨by rw[h1],h2⟩
theorem gk.uniq:∀(ks ks':gk),ks.wf->ks'.wf->ks.len=ks'.len->∀(r r':Q gB),ks.flat++r=ks'.flat++r'->ks=ks'/\r=r'
 | .nil,.nil,_,_,_,r,r',hx=>⟨rfl,by simpa[gk.flat] using hx⟩
 | .nil,.cons _ _,_,_,hl,_,_,_=>by simp[gk.len] at hl
 | .cons _ _,.nil,_,_,hl,_,_,_=>by simp[gk.len] at hl
 | .cons e q,.cons e' q',h,h',hl,r,r',hx=>by
  simp only[gk.flat,Rw] at hx;obtain⟨h1,h2⟩:=Ex.uniq e e' h.1 h'.1 _ _ hx;obtain⟨h3,h4⟩:=gk.uniq q q' h.2 h'.2 (by simpa[gk.len] using hl) r r' h2;exact⟨by rw[h1,h3],h4⟩
end
def jA (l:Q N)(s:N):Bool:=l.any fun y=>decide (y=s)
def qX (k:Int):Bool:=decide (k=1) || (decide (k=2) || (decide (k=3) || (decide (k=5) || decide (k=6))))
def qy:Q N->Q N->Bool
 | _,[]=>M
 | pre,x::r=>kU x && (!(jA pre x) && qy (pre++[x]) r)
def yi (l:Q N):Bool:=decide (l.length<=4) && qy [] l
def vR (x:fv):Bool:=if x.Kind=0∨x.Kind=1 then kU x.Name else decide (x.Name=emp)
def px (x:fv):Bool:=if x.Kind=0 then yi x.fM else decide (x.fM.length=0)
def rp (x:fv):Bool:=if qX x.Kind=M then py x.Expr else decide (x.Expr.length=0)
def oh (x:fv):Bool:=fT x.Kind 0 7 && (vR x && (px x && rp x))
def lf:Q fv->Nat->Q Int
 | [],_=>[]
 | x::r,i=>if x.Kind=0 then (i:Int)::lf r (i+1) else lf r (i+1)
def zp (p:Q fv):Q Int:=lf p 0
def og:Q fv->N->Nat->Int
 | [],_,_=>-1
 | x::r,s,i=>if x.Kind=0/\x.Name=s then (i:Int) else og r s (i+1)
def kz (p:Q fv)(s:N):Int:=og p s 0
def qU (out:Q N)(x:fv):Q N:=if x.Kind=1/\jA out x.Name=I then out++[x.Name] else out
def oF:Q fv->Nat->Q N->Q N
 | _,0,out=>out
 | [],_+1,out=>out
 | x::r,n+1,out=>oF r n (qU out x)
def zq (p:Q fv)(k:Int):Q N:=if iN p k<0 then [] else match p[k.toNat]? with
 | none=>[]
 | some x=>if x.Kind=0 then oF (p.drop k.toNat) ((iN p k).toNat-k.toNat) x.fM else []
def zP (p:Q fv)(locals:Q N)(t:gB):Bool:=
 if t.Kind=1 then jA locals t.Name else if t.Kind=7 then (if kz p t.Name<0 then I else match p[(kz p t.Name).toNat]? with
  | none=>I
  | some x=>decide ((x.fM.length:Int)=t.gW)) else M
def zQ (p:Q fv)(locals:Q N)(l:Q gB):Bool:=l.all (zP p locals)
def rj (p:Q fv)(k i:Nat):Bool:=(TK k (i-k)).any fun j=>decide (kh p j=i)
def nQ (p:Q fv)(locals:Q N)(k i:Nat)(x:fv):Bool:=
 (!decide (x.Kind=0)) && ((if x.Kind=4 then rj p k i else M) && (decide (zE p (i+1)-zE p (k+1)<=4) && zQ p locals x.Expr))
def rh (p:Q fv)(locals:Q N)(k:Nat):Q fv->Nat->Nat->Bool
 | _,0,_=>M
 | [],_+1,_=>M
 | x::r,n+1,i=>nQ p locals k i x && rh p locals k r n (i+1)
def my (p:Q fv)(k e:Nat):Bool:=decide ((zq p k).length<=8) && rh p (zq p k) k (p.drop (k+1)) (e-(k+1)) (k+1)
def oJ (p:Q fv):Nat->Nat->Bool
 | 0,_=>M
 | n+1,k=>match p[k]? with
  | none=>M
  | some x=>decide (x.Kind=0) && (decide (0<=iN p k) && (my p k (iN p k).toNat && oJ p n ((iN p k).toNat+1)))
def sU:N:=⟨#[109,97,105,110]⟩
def pV (p:Q fv):Bool:=match p[0]? with
 | none=>I
 | some x=>decide (x.Kind=0) && (decide (x.Name=sU) && decide (x.fM.length=0))
def rW (p:Q fv)(k:Nat)(x:fv):Bool:=oh x && (if x.Kind=0 then decide (kz p x.Name=k) else M)
def oM (p:Q fv):Q fv->Nat->Bool
 | [],_=>M
 | x::r,k=>rW p k x && oM p r (k+1)
def zv (p:Q fv):Bool:=decide (p.length<=60) && (pV p && (decide ((zp p).length<=6) && (oM p p 0 && oJ p p.length 0)))
theorem yU {l:Q fv} (h:l[i]?=Z x):oM p (l.drop i) i=(rW p i x && oM p (l.drop (i+1)) (i+1)):=by
 obtain⟨h1,rfl⟩:=QM.1 h;rw[Q6 h1];rfl
theorem Ev {p:Q fv}:∀(l:Q fv)(k i:Nat)(x:fv),oM p l k=M->l[i]?=Z x->rW p (k+i) x=M
 | [],_,_,_,_,h=>by simp at h
 | y::r,k,0,x,h,hx=>by
  simp only[oM,Q4] at h;simp only[RA,Rv] at hx;rw[<-hx];exact h.1
 | y::r,k,i+1,x,h,hx=>by
  simp only[oM,Q4] at h;have:=Ev r (k+1) i x h.2 (by simpa using hx);rwa [show k+1+i=k+(i+1) from by omega] at this
theorem E9:∀(l:Q fv)(s:N)(k:Nat),og l s k = -1∨∃(i:Nat)(x:fv),og l s k=((k+i:Nat):Int)/\l[i]?=Z x/\x.Kind=0/\x.Name=s
 | [],_,_=>.inl rfl
 | y::r,s,k=>by
  unfold og;by_cases h:y.Kind=0/\y.Name=s
  ·rw[Q5 h]
   exact .inr ⟨0,y,rfl,rfl,h.1,h.2⟩
  ·rw[QZ h]
   rcases E9 r s (k+1) with h1 | ⟨i,x,h1,h2,h3,h4⟩
   ·exact .inl h1
   ·exact .inr ⟨i+1,x,by rw[h1];congr 1;omega,by simpa using h2,h3,h4⟩
theorem Kq (p:Q fv)(s:N):kz p s = -1∨∃(i:Nat)(x:fv),kz p s=(i:Int)/\p[i]?=Z x/\x.Kind=0/\x.Name=s:=by
 rcases E9 p s 0 with h | ⟨i,x,h1,h2,h3,h4⟩
 ·exact .inl h
 ·exact .inr ⟨i,x,by unfold kz;rw[h1];simp,h2,h3,h4⟩
theorem sw (h:p[i]?=Z x)(hi:i<e):rh p locals k (p.drop i) (e-i) i=(nQ p locals k i x && rh p locals k (p.drop (i+1)) (e-(i+1)) (i+1)):=by
 obtain⟨h1,rfl⟩:=QM.1 h;rw[Q6 h1,show e-i=e-(i+1)+1 from by omega];rfl
theorem Fl {p:Q fv}{locals:Q N}{k:Nat}:∀(l:Q fv)(n a i:Nat)(x:fv),rh p locals k l n a=M->i<n->l[i]?=Z x->nQ p locals k (a+i) x=M
 | [],_,_,_,_,_,_,h=>by simp at h
 | y::r,0,_,_,_,_,hi,_=>by omega
 | y::r,n+1,a,0,x,h,_,hx=>by
  simp only[rh,Q4] at h;simp only[RA,Rv] at hx;rw[<-hx];exact h.1
 | y::r,n+1,a,i+1,x,h,hi,hx=>by
  simp only[rh,Q4] at h;have:=Fl r n (a+1) i x h.2 (by omega) (by simpa using hx);rwa [show a+1+i=a+(i+1) from by omega] at this
theorem EM (h:my p k e=M)(h1:k<i)(h2:i<e)(hx:p[i]?=Z x):nQ p (zq p k) k i x=M:=by
 unfold my at h;simp only[Q4] at h;have:=Fl _ _ _ (i-(k+1)) x h.2 (by omega) (by rw[Tw,show k+1+(i-(k+1))=i from by omega];exact hx);rwa [show k+1+(i-(k+1))=i from by omega] at this
theorem Fc {p:Q fv}:∀(n k:Nat),p.length-k<=n->oJ p n k=M->∀(i:Nat)(x:fv),k<=i->p[i]?=Z x->x.Kind=0->∃ e,gz p i e/\my p i e=M
 | 0,k,hn,_,i,x,hi,hx,_=>by have:=(QM.1 hx).1;omega
 | n+1,k,hn,h,i,x,hi,hx,h0=>by
  have a0:=(QM.1 hx).1;have hk:p[k]?=Z p[k]:=QW (by omega);simp only[oJ,hk,Q4,Rg] at h;obtain⟨h1,h2,h3,h4⟩:=h;rcases wE p k with⟨g,_⟩ | ⟨e,g1,g2⟩
  ·rw[g] at h2;omega
  ·rw[g1,Ra] at h3 h4
   rcases UB hi with hh | hh
   ·subst hh
    exact⟨e,g2,h3⟩
   ·have a1:=g2.lt
    by_cases hie:i<=e
    ·exfalso
     by_cases hee:i=e
     ·subst hee
      obtain⟨y,hy,h7⟩:=g2.last;rw[hx] at hy;injection hy with hy
      rw[hy,h7] at h0;cases h0
     ·have:=EM h3 hh (by omega) hx
      unfold nQ at this;simp[h0] at this
    ·exact Fc n (e+1) (by omega) h4 i x (by omega) hx h0
structure mC (p:Q fv):Prop where
 len:p.length<=60
 head:∃ x:fv,p[0]?=Z x/\x.Kind=0/\x.Name=sU/\x.fM = []
 line:∀(i:Nat) (x:fv),p[i]?=Z x->oh x=M
 own:∀(i:Nat) (x:fv),p[i]?=Z x->x.Kind=0->kz p x.Name=i
 mj:(zp p).length<=6
 body:∀(i:Nat) (x:fv),p[i]?=Z x->x.Kind=0->∃ e,gz p i e/\my p i e=M
theorem qj (h:zv p=M):mC p:=by
 unfold zv at h;simp only[Q4,Rg] at h;obtain⟨h1,h2,h3,h4,h5⟩:=h
 have hl:∀(i:Nat) (x:fv),p[i]?=Z x->rW p i x=M:=fun i x hx=>by
  have:=Ev p 0 i x h4 hx;rwa [Rk] at this
 refine⟨h1,?_,fun i x hx=>?_,fun i x hx h0=>?_,h3,fun i x hx h0=>Fc _ 0 (by omega) h5 i x (QX _) hx h0⟩
 ·unfold pV at h2
  cases hp:p[0]? with
  | none=>rw[hp] at h2;cases h2
  | some x=>
   rw[hp] at h2;simp only[Q4,Rg,Tj] at h2;exact⟨x,rfl,h2⟩
 ·have:=hl i x hx
  unfold rW at this;simp only[Q4] at this;exact this.1
 ·have:=hl i x hx
  unfold rW at this;simp only[Q4,h0,Tk,Rg] at this;exact this.2
def jU (x:fv):fv:={ x with Expr:=if 0<x.Expr.length then qQ x.Expr else x.Expr }
def qo (p:Q fv):Q fv:=if zv p=M then p.map jU else []
def gR (p q:Q fv):Prop:=p.map fv.Kind=q.map fv.Kind
theorem gR.len (h:gR p q):p.length=q.length:=by
 have:=Sg List.length h;simpa using this
theorem gR.at (h:gR p q)(i:Nat):(p[i]?).map fv.Kind=(q[i]?).map fv.Kind:=by
 have:=Sg (fun l=>l[i]?) h;simpa using this
theorem gR.get (h:gR p q){i:Nat}{x y:fv}(hx:p[i]?=Z x)(hy:q[i]?=Z y):x.Kind=y.Kind:=by
 have:=h.at i;rw[hx,hy] at this;simpa using this
theorem gR.ex (h:gR p q){i:Nat}{x:fv}(hx:p[i]?=Z x):∃ y,q[i]?=Z y/\x.Kind=y.Kind:=by
 have hl:=(QM.1 hx).1;have hy:q[i]?=Z (q[i]'(by rw[<-h.len];exact hl)):=QW _;exact⟨_,hy,h.get hx hy⟩
theorem gR.symm {p q:Q fv}(h:gR p q):gR q p:=Eq.symm h
theorem LG (h:x.Kind=y.Kind):kR x=kR y:=by unfold kR;rw[h]
theorem gR.depth {p q:Q fv}(h:gR p q):∀ i,zE p i=zE q i
 | 0=>rfl
 | i+1=>by
  cases hx:p[i]? with
  | none=>
   have hl:p.length<=i:=R6.1 hx;have h1:=gR.depth h i;unfold zE at h1 |-;rw[R7 (by omega),R7 (by rw[<-h.len];omega)];rw[R7 hl,R7 (by rw[<-h.len];omega)] at h1;exact h1
  | some x=>
   obtain⟨y,hy,hk⟩:=h.ex hx;rw[sA hx,sA hy,gR.depth h i,LG hk]
theorem gR.ends (h:gR p q){k e:Nat}(he:gz p k e):gz q k e:=by
 obtain⟨x,hx,ho⟩:=he.op;obtain⟨y,hy,hk⟩:=h.ex hx;exact⟨⟨y,hy,by rw[<-hk];exact ho⟩,he.lt,by rw[<-h.len];exact he.len,by rw[<-h.depth,<-h.depth];exact he.eq,fun i a b=>by rw[<-h.depth,<-h.depth];exact he.up i a b⟩
theorem gR.iS {p q:Q fv}(h:gR p q)(k:Int):iN p k=iN q k:=by
 rcases vJ p k with h1 | ⟨a,e,rfl,h1,h2⟩
 ·rcases vJ q k with g1 | ⟨a,e,rfl,g1,g2⟩
  ·rw[h1,g1]
  ·rw[(h.symm.ends g2).iS] at h1
   omega
 ·rw[h1,(h.ends h2).iS]
theorem gR.s8 {p q:Q fv}(h:gR p q):∀(n i:Nat)(e:Int),oO p n i e=oO q n i e
 | 0,_,_=>rfl
 | n+1,i,e=>by
  unfold oO;by_cases hi:(i:Int)<e
  ·rw[Q5 hi,Q5 hi]
   cases hx:p[i]? with
   | none=>
    have:q[i]?=D:=R6.2 (by rw[<-h.len];exact R6.1 hx);rw[this]
   | some x=>
    obtain⟨y,hy,hk⟩:=h.ex hx;rw[hy];simp only[hk,h.iS,gR.s8 h n]
  ·rw[QZ hi,QZ hi]
theorem gR.Bn (h:gR p q)(k:Int):kh p k=kh q k:=by
 unfold kh;rw[h.iS];split
 ·rfl
 ·cases hx:p[k.toNat]? with
  | none=>
   have:q[k.toNat]?=D:=R6.2 (by rw[<-h.len];exact R6.1 hx);rw[this]
  | some x=>
   obtain⟨y,hy,hk⟩:=h.ex hx;rw[hy];simp only[hk,h.s8,h.len]
theorem Ci (p:Q fv):gR p (p.map jU):=by
 unfold gR;rw[List.map_map];rfl
theorem Ik (h:p[i]?=Z x):(p.map jU)[i]?=Z (jU x):=by simp[h]
theorem tu (h:(p.map jU)[i]?=Z y):∃ x,p[i]?=Z x/\y=jU x:=by
 simp only[Um,R8] at h;obtain⟨x,h1,h2⟩:=h;exact⟨x,h1,h2.symm⟩
theorem Fa:∀(l:Q fv)(i:Nat),lf (l.map jU) i=lf l i
 | [],_=>rfl
 | x::r,i=>by
  simp only[RS,lf,Fa r];rfl
theorem xD (p:Q fv):zp (p.map jU)=zp p:=Fa p 0
theorem Ep:∀(l:Q fv)(s:N)(i:Nat),og (l.map jU) s i=og l s i
 | [],_,_=>rfl
 | x::r,s,i=>by
  simp only[RS,og,Ep r];rfl
theorem JV (p:Q fv)(s:N):kz (p.map jU) s=kz p s:=Ep p s 0
theorem DK:∀(l:Q fv)(n:Nat)(out:Q N),oF (l.map jU) n out=oF l n out
 | _,0,_=>by cases ‹Q fv› <;> rfl
 | [],_+1,_=>rfl
 | x::r,n+1,out=>by
  simp only[RS,oF,DK r];rfl
theorem Js (p:Q fv)(k:Int):zq (p.map jU) k=zq p k:=by
 unfold zq;rw[(Ci p).symm.iS];split
 ·rfl
 ·cases hx:p[k.toNat]? with
  | none=>simp[hx]
  | some x=>
   rw[Ik hx];simp only[<-List.map_drop,DK];rfl
structure j9 (p:Q fv):Prop where
 len:p.length<=60
 kind:∀(i:Nat) (x:fv),p[i]?=Z x->fT x.Kind 0 7=M
 expr:∀(i:Nat) (x:fv),p[i]?=Z x->qX x.Kind=M->∃ e:Ex,e.wf/\x.Expr=e.flat/\e.size<=20
 args:∀(i:Nat) (x:fv),p[i]?=Z x->x.fM.length<=4
 name:∀(i:Nat) (x:fv),p[i]?=Z x->x.Kind=0->kU x.Name=M
 mj:(zp p).length<=6
 body:∀(i:Nat) (x:fv),p[i]?=Z x->x.Kind=0->∃ e,gz p i e/\(zq p i).length<=8/\
  ∀(j:Nat) (y:fv),i<j->j<e->p[j]?=Z y->y.Kind≠0/\zQ p (zq p i) y.Expr=M/\(y.Kind=4->∃ a,i<=a/\a<j/\iW p a j)/\(y.Kind=1->jA (zq p i) y.Name=M)
theorem rT (h:oh x=M):fT x.Kind 0 7=M/\vR x=M/\px x=M/\rp x=M:=by
 unfold oh at h;simpa only[Q4,UU] using h
theorem LN (h:px x=M):x.fM.length<=4:=by
 unfold px at h;split at h
 ·unfold yi at h
  simp only[Q4,Rg] at h;exact h.1
 ·simp only[Rg] at h
  omega
theorem Oz {l r:Q N} (h:jA l s=M):jA (l++r) s=M:=by
 unfold jA at h |-;rw[List.any_append,h];rfl
theorem KS (out:Q N)(x:fv):x.Kind=1->jA (qU out x) x.Name=M:=by
 intro h;unfold qU;cases hn:jA out x.Name with
 | true=>rw[QZ (by simp)];exact hn
 | false=>
  rw[Q5 ⟨h,rfl⟩];unfold jA;simp
theorem Kb {out:Q N} (h:jA out s=M):jA (qU out x) s=M:=by
 unfold qU;split
 ·exact Oz h
 ·exact h
theorem DL:∀(l:Q fv)(n:Nat)(out:Q N)(s:N),jA out s=M->jA (oF l n out) s=M
 | _,0,out,s,h=>by cases ‹Q fv› <;> exact h
 | [],_+1,out,s,h=>h
 | x::r,n+1,out,s,h=>DL r n _ s (Kb h)
theorem Ew:∀(l:Q fv)(n i:Nat)(out:Q N)(x:fv),l[i]?=Z x->i<n->x.Kind=1->jA (oF l n out) x.Name=M
 | [],_,_,_,_,h,_,_=>by simp at h
 | y::r,0,_,_,_,_,h,_=>by omega
 | y::r,n+1,0,out,x,h,_,hk=>by
  simp only[RA,Rv] at h;subst h;exact DL r n _ _ (KS out y hk)
 | y::r,n+1,i+1,out,x,h,hi,hk=>Ew r n i _ x (by simpa using h) (by omega) hk
theorem Kl {j:Nat} (he:gz p k e)(hx:p[k]?=Z x)(h0:x.Kind=0)(h1:k<j)(h2:j<e)(hy:p[j]?=Z y)(hk:y.Kind=1):jA (zq p k) y.Name=M:=by
 unfold zq;rw[he.iS,QZ (by omega)];simp only[Ra,hx,h0,Tk];exact Ew _ _ (j-k) _ y (by rw[Tw,show k+(j-k)=j from by omega];exact hy) (by omega) hk
theorem Jg (h:nQ p locals k i x=M):x.Kind≠0/\(x.Kind=4->rj p k i=M)/\zE p (i+1)-zE p (k+1)<=4/\zQ p locals x.Expr=M:=by
 unfold nQ at h;simp only[Q4,TU,RW,Rg] at h;exact⟨h.1,fun h4=>by have:=h.2.1;rwa [Q5 h4] at this,h.2.2.1,h.2.2.2⟩
theorem M6 (h:rj p k i=M):∃ a,k<=a/\a<i/\iW p a i:=by
 unfold rj at h;rw[SR] at h;obtain⟨a,h1,h2⟩:=h;rw[List.mem_range'_1] at h1;simp only[Rg] at h2;rcases DY p a with h3 | ⟨j,h3,h4⟩
 ·omega
 ·have:j=i:=by omega
  subst this;exact⟨a,h1.1,by omega,h4⟩
theorem mC.c (h:mC p):j9 p:=by
 refine⟨h.len,fun i x hx=>(rT (h.line i x hx)).1,fun i x hx he=>?_,fun i x hx=>LN (rT (h.line i x hx)).2.2.1,fun i x hx h0=>?_,h.mj,fun i x hx h0=>?_⟩
 ·have h1:=(rT (h.line i x hx)).2.2.2
  unfold rp at h1;rw[Q5 he] at h1;obtain⟨e,g1,g2,g3⟩:=Eo h1;refine⟨e,g1,g2,?_⟩;rw[g2,e.gj] at g3;exact g3
 ·have h1:=(rT (h.line i x hx)).2.1
  unfold vR at h1;rwa [Q5 (.inl h0)] at h1
 ·obtain⟨e,h1,h2⟩:=h.body i x hx h0
  refine⟨e,h1,?_,fun j y a b hy=>?_⟩
  ·unfold my at h2
   simp only[Q4,Rg] at h2;exact h2.1
  ·obtain⟨g1,g2,_,g4⟩:=Jg (EM h2 a b hy)
   exact⟨g1,g4,fun h4=>M6 (g2 h4),fun h1'=>Kl h1 hx h0 a b hy h1'⟩
theorem iW.xr (h:gR p q){a j:Nat}(he:iW p a j):iW q a j:=by
 obtain⟨x,hx,h3⟩:=he.iff;obtain⟨y,hy,hk⟩:=h.ex hx;obtain⟨z,hz,h4⟩:=he.Bn;obtain⟨u,hu,a1⟩:=h.ex hz;obtain⟨e,g1,g2⟩:=he.iU;refine⟨⟨y,hy,by rw[<-hk];exact h3⟩,he.lt,⟨u,hu,by rw[<-a1];exact h4⟩,⟨e,h.ends g1,g2⟩,fun i x' b c d o n=>?_⟩;obtain⟨v,hv,a0⟩:=h.symm.ex d;obtain⟨e',w1,w2⟩:=he.out i v b c hv (by rw[<-a0];exact o) (by rw[<-a0];exact n);exact⟨e',h.ends w1,w2⟩
theorem Jt (p:Q fv)(locals:Q N)(t:gB):zP (p.map jU) locals t=zP p locals t:=by
 unfold zP;rw[JV];split
 ·rfl
 ·split
  ·split
   ·rfl
   ·cases hx:p[(kz p t.Name).toNat]? with
    | none=>simp[hx]
    | some x=>rw[Ik hx];rfl
  ·rfl
theorem JR {t:gB} (h:t.Kind=0):zP p locals t=M:=by
 unfold zP;rw[QZ (by omega),QZ (by omega)]
theorem mC.fold {p:Q fv}(h:mC p):j9 (p.map jU):=by
 have hc:=h.c;have hk:=Ci p
 have a0:∀(i:Nat) (x:fv),p[i]?=Z x->qX x.Kind=M->∃ e:Ex,e.wf/\x.Expr=e.flat/\(jU x).Expr=e.fold/\e.size<=20:=fun i x hx he=>by
  have h1:=(rT (h.line i x hx)).2.2.2;unfold rp at h1;rw[Q5 he] at h1;obtain⟨e,g1,g2,g3,g4⟩:=yH h1;have gs:=g3;rw[g2,e.gj] at gs;refine⟨e,g1,g2,?_,gs⟩;unfold jU;have:0<x.Expr.length:=by rw[g2,e.gj];exact e.size_pos
  simp only[Q5 this];exact g4
 refine⟨by simpa using h.len,fun i y hy=>?_,fun i y hy he=>?_,fun i y hy=>?_,fun i y hy h0=>?_,by rw[xD];exact h.mj,fun i y hy h0=>?_⟩
 ·obtain⟨x,hx,rfl⟩:=tu hy
  exact hc.kind i x hx
 ·obtain⟨x,hx,rfl⟩:=tu hy
  obtain⟨e,g1,g2,g3,g4⟩:=a0 i x hx he;obtain⟨e',w1,w2,w3⟩:=e.ic g1;exact⟨e',w1,by rw[g3,w2],by omega⟩
 ·obtain⟨x,hx,rfl⟩:=tu hy
  exact hc.args i x hx
 ·obtain⟨x,hx,rfl⟩:=tu hy
  exact hc.name i x hx h0
 ·obtain⟨x,hx,rfl⟩:=tu hy
  obtain⟨e,h1,h2,h3⟩:=hc.body i x hx h0;rw[Js];refine⟨e,hk.ends h1,h2,fun j z a b hz=>?_⟩;obtain⟨u,hu,rfl⟩:=tu hz;obtain⟨g1,g2,g3,g4⟩:=h3 j u a b hu;refine⟨g1,?_,fun h4=>?_,g4⟩
  ·unfold zQ at g2 |-
   rw[SG] at g2 |-;intro t ht;rw[Jt];by_cases he:qX u.Kind=M
   ·obtain⟨e,w1,w2,w3,_⟩:=a0 j u hu he
    rw[w3] at ht;rcases e.jH t ht with h5 | h5
    ·exact g2 t (by rw[w2];exact h5)
    ·exact JR h5
   ·have h1:=(rT (h.line j u hu)).2.2.2
    unfold rp at h1;rw[QZ he] at h1;simp only[Rg] at h1;unfold jU at ht;simp only[h1,TS,if_false] at ht;exact g2 t ht
  ·obtain⟨a',w1,w2,w3⟩:=g3 h4
   exact⟨a',w1,w2,w3.xr hk⟩
structure fW where
 p:Q fv
 inl:Int
 gV:Bool
 words:Int
 args:Int
structure fG where
 f:Int
 chain:Q Int
 locals:Q N
 first:Int
 outer:Bool
 leaves:Q Int
structure fS where
 items:Q fP
 depth:Int
 gL:Int
 start:Bool
def fS.iK (m:fS)(l:Q fP):fS:=⟨l,m.depth,m.gL,m.start⟩
def fS.gw (m:fS)(d:Int):fS:=⟨m.items,d,m.gL,m.start⟩
def fS.ke (m:fS)(d:Int):fS:=⟨m.items,m.depth,d,m.start⟩
def fS.begun (m:fS):fS:=⟨m.items,m.depth,m.gL,M⟩
def tF (E:fW)(m:fS)(code arg line:Int)(chain:Q Int):fP:=
 ⟨⟨code,arg⟩,line,m.start,chain,if (E.gV && decide (0<m.items.length))=M then 0 else m.depth,E.gV && decide (0<m.items.length)⟩
def zB (E:fW)(m:fS)(code arg line:Int)(chain:Q Int):fS:=⟨m.items++[tF E m code arg line chain],m.depth,m.gL,I⟩
def oR (E:fW)(depth:Int)(s:fG)(i:Int)(store:Bool):Int × Int:=
 (if E.gV=M then (if store=M then 2 else 1) else (if store=M then 4 else 3),
  if E.gV=M then
   (if s.outer=M then (if i<E.args then 1+(E.args-i) else -1-(i-E.args)) else -1-(s.first+i))
  else (if s.outer=M then (if i<E.args then depth+(E.args-i) else depth-1-(i-E.args)) else depth-1-(s.first+i)))
def Bj (E:fW)(m:fS)(s:fG)(i line:Int):fS:=
 (zB E m (oR E m.depth s i I).1 (oR E m.depth s i I).2 line s.chain).gw (m.depth+1)
def mW (E:fW)(m:fS)(s:fG)(i line:Int)(chain:Q Int):fS:=
 (zB E m (oR E m.depth s i M).1 (oR E m.depth s i M).2 line chain).gw (m.depth-1)
def lZ (E:fW)(m:fS)(v line:Int)(chain:Q Int):fS:=
 (zB E m 0 v line chain).gw (m.depth+1)
def mP (E:fW)(fs:Q Int)(m:fS)(g:Int):Bool:=
 decide ((fs.length:Int)-1<E.inl) && (decide (iN E.p g-g<=9) && (decide ((m.items.length:Int)<200) && !(fs.any fun f=>decide (f=g))))
def qH:Q N->N->Nat->Int
 | [],_,_=>-1
 | y::r,s,i=>if y=s then (i:Int) else qH r s (i+1)
def sF (p:Q fv)(g:Int):Int:=((zp p).filter fun k=>decide (k<g)).length
def oz (E:fW)(rep:Int->fS->fS)(fs:Q Int)(s:fG)(k:Int)(t:gB)(m:fS):fS:=
 if t.Kind=0 then lZ E m t.gW k s.chain
 else if t.Kind=1 then Bj E m s (qH s.locals t.Name 0) k
 else if t.Kind=7 then
  if mP E fs m (kz E.p t.Name)=M then rep (kz E.p t.Name) m
  else (zB E m 12 (sF E.p (kz E.p t.Name)) k s.chain).gw (m.depth-t.gW+1)
 else (zB E m (5+t.Kind-2) 0 k s.chain).gw (m.depth-1)
mutual
def Ex.comp (E:fW)(rep:Int->fS->fS)(fs:Q Int)(s:fG)(k:Int):Ex->fS->fS
 | .node t ks,m=>oz E rep fs s k t (ks.comp E rep fs s k m)
def gk.comp (E:fW)(rep:Int->fS->fS)(fs:Q Int)(s:fG)(k:Int):gk->fS->fS
 | .nil,m=>m
 | .cons e r,m=>r.comp E rep fs s k (e.comp E rep fs s k m)
end
def mw (items:Q fP)(j:Nat)(v:Int):Q fP:=match items[j]? with
 | none=>items
 | some x=>items.set j { x with Op:=⟨x.Op.Code,v⟩ }
def pN (items:Q fP)(js:Q Int)(v:Int):Q fP:=js.foldl (fun l j=>mw l j.toNat v) items
def qV (E:fW)(x:fG)(k:Int)(chain:Q Int):Nat->fS->fS
 | 0,m=>m
 | n+1,m=>qV E x k chain n (mW E m x n k chain)
def sS (E:fW)(x:fG)(k:Int)(chain:Q Int):Nat->Nat->fS->fS
 | 0,_,m=>m
 | n+1,i,m=>sS E x k chain n (i+1) (mW E (lZ E m 0 k chain) x i k chain)
def zZ (p:Q fv)(g:Int):Q N:=match p[g.toNat]? with
 | none=>[]
 | some x=>x.fM
def oV (E:fW)(s:fG):Int:=if s.outer=M then s.locals.length-E.args else s.first+s.locals.length
def kD (E:fW)(g k:Int)(s:fG):fG:=⟨g,s.chain++[k],zq E.p g,oV E s,I,[]⟩
def qF (E:fW)(g k:Int)(s:fG)(m:fS):fS:=
 let x:=kD E g k s
 let m1:=m.ke (max m.gL (oV E s+x.locals.length))
 let m2:=qV E x k s.chain (zZ E.p g).length m1
 let m3:=sS E x k s.chain (x.locals.length-(zZ E.p g).length) (zZ E.p g).length m2
 if m3.start=M then zB E m3 15 0 k s.chain else m3
def jL (E:fW)(lines:Q Int->fG->fS->fS × Q Int)(fs:Q Int)(k:Int)(s:fG)(g:Int)(m:fS):fS:=
 let m4:=qF E g k s m
 let r:=lines (fs++[g]) (kD E g k s) m4
 (r.1.iK (pN r.1.items r.2 r.1.items.length)).gw (m4.depth+1)
structure je where
 m:fS
 leaves:Q Int
 fN:Q Int
 fR:Q (Int × Int)
def nU (items:Q fP)(fR:Q (Int × Int))(tgt v:Int):Q fP:=fR.foldl (fun l e=>if e.1=tgt then mw l e.2.toNat v else l) items
def je.wm (L:je)(m:fS):je:=⟨m,L.leaves,L.fN,L.fR⟩
def lD (m:fS)(es:Q (Int × Int))(tgt:Int):fS:=m.iK (nU m.items es tgt m.items.length)
def kN (E:fW)(s:fG)(k:Int)(last:Bool)(L:je):je:=
 if s.outer=M then
  (if E.gV=M then L.wm ((zB E L.m 14 E.args k s.chain).gw (L.m.depth-1))
   else L.wm ((zB E L.m 16 (E.args+16*E.words) k s.chain).gw (L.m.depth-1)))
 else if last=M then L.wm (L.m.gw (L.m.depth-1))
 else ⟨(zB E L.m 10 0 k s.chain).gw (L.m.depth-1),L.leaves++[(L.m.items.length:Int)],L.fN,L.fR⟩
def nM (p:Q fv)(k:Int)(item:Int):Nat->Nat->Q (Int × Int)
 | 0,_=>[]
 | n+1,i=>if kh p i=k then (iN p i+1,item)::nM p k item n (i+1) else nM p k item n (i+1)
def ns (E:fW)(k:Int)(chain:Q Int)(fN:Q Int):Nat->Nat->fS->fS
 | 0,_,m=>m
 | n+1,i,m=>ns E k chain fN n (i+1) (if iN E.p i=k/\(E.p[i]?.map fv.Kind)=Z 5 then zB E m 10 (fN.getD i 0) k chain else m)
def wX (E:fW)(rep:Int->fS->fS)(fs:Q Int)(s:fG)(k:Int)(xs:Q gB):Nat->Nat->Nat->fS->fS × Nat
 | 0,_,a,m=>(m,a)
 | _+1,0,a,m=>(m,a)
 | f+1,n+1,a,m=>match xs[a]? with
  | none=>(m,a)
  | some t=>wX E rep fs s k xs f n (wX E rep fs s k xs f (jk t).toNat (a+1) m).2 (oz E rep fs s k t (wX E rep fs s k xs f (jk t).toNat (a+1) m).1)
theorem Cc {E:fW}{rep:Int->fS->fS}{fs:Q Int}{s:fG}{k:Int}{xs:Q gB}:∀(f:Nat)(ks:gk)(a:Nat)(r:Q gB)(m:fS),ks.wf->xs.drop a=ks.flat++r->ks.size<f->wX E rep fs s k xs f ks.len a m=(ks.comp E rep fs s k m,a+ks.size)
 | 0,_,_,_,_,_,_,hf=>by omega
 | f+1,.nil,a,r,m,_,_,_=>rfl
 | f+1,.cons (.node t ks) q,a,r,m,h,hx,hf=>by
  simp only[gk.flat,Ex.flat,Tt,Rw] at hx;simp only[gk.size,Ex.size] at hf;obtain⟨h1,h2⟩:=wO hx;simp only[gk.len,wX,h1];have e1:=Cc (E:=E) (rep:=rep) (fs:=fs) (s:=s) (k:=k) f ks (a+1) _ m h.1.2.2 h2 (by omega);rw[h.1.2.1,Ra,e1]
  have h3:xs.drop (a+1+ks.size)=q.flat++r:=by
   rw[<-TH,h2,<-ks.gj,Ul]
  rw[Cc f q _ r _ h.2 h3 (by omega)];simp only[gk.comp,Ex.comp,gk.size,Ex.size];congr 1;omega
def sW (E:fW)(rep:Int->fS->fS)(fs:Q Int)(s:fG)(k:Int)(xs:Q gB)(m:fS):fS:=(wX E rep fs s k xs (xs.length+1) 1 0 m).1
theorem AA {E:fW} {rep:Int->fS->fS} {fs:Q Int} {s:fG} {k:Int} {m:fS} {e:Ex} (h:e.wf):sW E rep fs s k e.flat m=e.comp E rep fs s k m:=by
 unfold sW;have:=Cc (E:=E) (rep:=rep) (fs:=fs) (s:=s) (k:=k) (xs:=e.flat) (e.flat.length+1) (.cons e .nil) 0 [] m ⟨h,trivial⟩ (by simp[gk.flat]) (by simp only[gk.size,e.gj];omega);simp only[gk.len,Rk] at this;rw[this];simp[gk.comp]
def lF (E:fW)(rep:Int->fS->fS)(fs:Q Int)(s:fG)(e k:Nat)(x:fv)(L:je):je:=
 let m0:=lD L.m L.fR k
 if x.Kind=4 then
  let ex:=L.fR++nM E.p k L.m.items.length (k-s.f.toNat) s.f.toNat
  ⟨lD (zB E m0 10 0 k s.chain) ex (-(k:Int)),L.leaves,L.fN,ex⟩
 else if x.Kind=7 then
  if k=e then kN E s k M (L.wm (lZ E m0 0 k s.chain))
  else L.wm (ns E k s.chain L.fN (k-(s.f.toNat+1)) (s.f.toNat+1) m0)
 else
  let m1:=sW E rep fs s k x.Expr m0.begun
  let L1:je:=⟨m1,L.leaves,L.fN.set k L.m.items.length,L.fR⟩
  if x.Kind=1 then L1.wm (mW E m1 s (qH s.locals x.Name 0) k s.chain)
  else if x.Kind=2 then L1.wm ((zB E m1 17 0 k s.chain).gw (m1.depth-1))
  else if x.Kind=6 then kN E s k I L1
  else ⟨(zB E m1 11 0 k s.chain).gw (m1.depth-1),L.leaves,L.fN.set k L.m.items.length,L.fR++[(if x.Kind=3/\0<=kh E.p k then -(kh E.p k) else iN E.p k+1,(m1.items.length:Int))]⟩
def pQ (E:fW)(rep:Int->Int->fS->fS)(fs:Q Int)(s:fG)(e:Nat):Q fv->Nat->Nat->je->je
 | _,0,_,L=>L
 | [],_+1,_,L=>L
 | x::r,n+1,k,L=>pQ E rep fs s e r n (k+1) (lF E (rep k) fs s e k x L)
def vT (E:fW)(rep:Q Int->fG->Int->Int->fS->fS)(fs:Q Int)(s:fG)(m:fS):fS × Q Int:=
 let e:=(iN E.p s.f).toNat
 let L:=pQ E (rep fs s) fs s e (E.p.drop (s.f.toNat+1)) (e-s.f.toNat) (s.f.toNat+1) ⟨m,s.leaves,Ro E.p.length 0,[]⟩
 (L.m,L.leaves)
def iX (E:fW):Nat->Q Int->fG->fS->fS × Q Int
 | 0=>fun _ _ m=>(m,[])
 | d+1=>vT E fun fs s k g m=>jL E (iX E d) fs k s g m
def ll (b:fV)(f:Nat):Bool:=decide (b.Frames / 2 ^ f % 2=1)
def kQ (p:Q fv)(b:fV)(f:Nat)(words:Int):Q fP × Int:=
 let line:=((zp p)[f]?).getD 0
 let args:=(zZ p line).length
 let s:fG:=⟨line,[],zq p line,0,M,[]⟩
 let E:fW:=⟨p,b.Inline,ll b f,words,args⟩
 let m0:fS:=⟨[],0,(zq p line).length-args,I⟩
 let m1:=(zB E m0 (if ll b f=M then 13 else 15) words line []).gw words
 let r:=iX E 4 [line] s m1
 (r.1.items,r.1.gL)
def jM (b:fV):Bool:=fT b.Frames 0 63 && fT b.Inline 0 3
def ki (p:Q fv)(b:fV)(f:Nat):Q fP:=
 let q:=if b.Fold=M then qo p else p
 (kQ q b f (kQ q b f 0).2).1
def kM (p:Q fv)(k:Int):Int:=((p[k.toNat]?).map fv.Kind).getD (-1)
end Go.Proofs.YthgbglbaemelhaaGreat
