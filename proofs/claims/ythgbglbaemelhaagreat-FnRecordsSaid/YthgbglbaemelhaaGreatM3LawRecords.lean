/-
  PART.
-/
import Derived.Test.YthgbglbaemelhaaGreatM2LawRecords
import Derived.OrdersHeld
set_option linter.unusedVariables false
set_option linter.unusedSimpArgs false
set_option maxRecDepth 100000
set_option maxHeartbeats 8000000
namespace Go.Proofs.YthgbglbaemelhaaGreat
open Value renaming slice->J,int->C,bool->X,string->Q
open IntKind renaming i64->Z,wrap->Vl
open Option renaming none->I,some->F,getD_some->WM
open Obj renaming cells->U
open Bool renaming false->M,true->H
open Go renaming World->V,Calls->VK,Addr->VQ,TypeId->Wl,yielded->Xb,undef->Yd,Ending->Z9
open World renaming cell?->Vg,frozen?->VE
open _root_.Int renaming toNat_natCast->Vy
open List renaming length_cons->VC,replicate->VP,getElem?_cons_zero->VU,length_nil->VZ,nil_append->Wo,cons_append->Xl,foldl_cons->XC,range'->Yj
open Region renaming wanted->V6,ready->Wv,noSelect->XV,Mode->XY,free->YI
open RowKit renaming intOf->Wj
open _root_.Nat renaming add_zero->Wk
open Tryz
open Go.RowKit
variable {A A' A0 A1 A2 A3:N VQ}{B c' c0 c1 c2 c3 d f g i j k m m1 n n0:Nat}{L S S' S0 S1 S2 S3:D Nat}{P:Program}{U7 W W' u1 w:V}{a:Act}{b:gP}{ft fs:D Int}{code line v:Int}{cs:D Value}{e:Wl}{l:D fX}{listed:Array Bool}{fM:D G}{o oi:Oper}{o0 o1 o2 o3 o4 o5 o6:Value}{ops:Array Oper}{p q:D fB}{rows:D (D Value)}{s:G}{t:iq}{x y:fB}
def Pp (x:gB)(w:V)(r:Z9)(w':V):Prop:=∃ A0 c0 A1 c1 A2 c2 A3 c3,r=.returned (.agg #[J A0 x.fo.fw.length c0,J A1 x.fo.fD.length c1,J A2 x.fo.fm.length c2,J A3 x.fu.length c3,C Z x.gM,C Z x.gO,C Z x.fW])/\gH nz w w' [J A0 x.fo.fw.length c0,J A1 x.fo.fD.length c1,J A2 x.fo.fm.length c2,J A3 x.fu.length c3,C Z x.gM,C Z x.gO,C Z x.fW] x/\fy w w'
theorem Cl {x:gB} (h0:nh.O w [J A0 x.fo.fw.length c0,J A1 x.fo.fD.length c1,J A2 x.fo.fm.length c2] x.fo S0)(h1:(lQ.sl 41).O w [J A3 x.fu.length c3] x.fu S1)(h2:fQ x.gM)(h3:fQ x.gO)(h4:fQ x.fW):nz.O w [J A0 x.fo.fw.length c0,J A1 x.fo.fD.length c1,J A2 x.fo.fm.length c2,J A3 x.fu.length c3,C Z x.gM,C Z x.gO,C Z x.fW] x (S0++S1):=by
 have h:nz.O w [J A0 x.fo.fw.length c0,J A1 x.fo.fD.length c1,J A2 x.fo.fm.length c2,J A3 x.fu.length c3,C Z x.gM,C Z x.gO,C Z x.fW] x (S0++(S1++([]++([]++[])))):=⟨[J A0 x.fo.fw.length c0,J A1 x.fo.fD.length c1,J A2 x.fo.fm.length c2],[J A3 x.fu.length c3,C Z x.gM,C Z x.gO,C Z x.fW],S0,(S1++([]++([]++[]))),rfl,rfl,h0,⟨[J A3 x.fu.length c3],[C Z x.gM,C Z x.gO,C Z x.fW],S1,([]++([]++[])),rfl,rfl,h1,⟨[C Z x.gM],[C Z x.gO,C Z x.fW],[],([]++[]),rfl,rfl,⟨rfl,h2.1,h2.2,rfl⟩,⟨[C Z x.gO],[C Z x.fW],[],[],rfl,rfl,⟨rfl,h3.1,h3.2,rfl⟩,⟨rfl,h4.1,h4.2,rfl⟩⟩⟩⟩⟩
 simpa using h
def zQ (x:gB):Nat:=my x.fo+nQ mM x.fu
def zO (m:fF):Bool:=decide (m.fK.length=1200) && gE m.Sp 0 1200 && gE m.fY 0 2
def km (x:gB):Bool:=ke x.fo && gE x.fu.length 1 3 && gE x.gM 0 ((x.fu.length:Int)-1) && gE x.fW 1 1000 && gE x.gO 1 x.fW && x.fu.all zO
theorem zfd {m:fF} (hn:m.fK.length<=1099511627776):VK prog 46 #[.agg #[C Z m.Pc,C Z m.Sp,C Z m.Fp,J A0 m.fK.length c0,J A1 m.iE.length c1,C Z m.fY,C Z m.Value]] w fun r w'=>r=.returned (X (zO m))/\fy w w':=by
 by_cases q:m.fK.length=1200
 case neg=>
  have HQ:=fk (show zO m=M from by simp[zO,q]);have p1:((m.fK.length:Int) == 1200)=M:=by simp;omega
  clear q;go_enter func46,ntmps46;go_wp2_with(fail);go_ret;exact⟨zp HQ.out.symm,gG⟩
 have p1:((m.fK.length:Int) == 1200)=H:=by simp;omega
 obtain⟨b1,h1⟩:∃ b,gE m.Sp 0 1200=b:=⟨_,rfl⟩
 obtain⟨b2,h2⟩:∃ b,gE m.fY 0 2=b:=⟨_,rfl⟩
 have HQ:=fk (show zO m=(b1 && b2) from by simp[zO,q,h1,h2]);have H1:=fk h1;have H2:=fk h2;clear q h1 h2;cases b1 with
 | false=>
  go_enter func46,ntmps46;go_wp2_with(go_at_call 38;refine(lf _ _ _ _).mono ?_;first | (rw[H1.out];rintro e w1 ⟨rfl,rfl⟩));go_ret;exact⟨zp HQ.out.symm,gG⟩
 | true=>
  go_enter func46,ntmps46;go_wp2_with(go_at_call 38;refine(lf _ _ _ _).mono ?_;first | (rw[H1.out];rintro e w1 ⟨rfl,rfl⟩) | (rw[H2.out];rintro e w1 ⟨rfl,rfl⟩));go_ret;exact⟨zp (by rw[HQ.out];rfl),gG⟩
theorem zli {m:fF} (hn:m.fK.length<=1099511627776):VK prog 42 #[.agg #[C Z m.Pc,C Z m.Sp,C Z m.Fp,J A0 m.fK.length c0,J A1 m.iE.length c1,C Z m.fY,C Z m.Value]] w fun r w'=>r=.returned (X (zO m))/\fy w w':=by
 by_cases q:m.fK.length=1200
 case neg=>
  have HQ:=fk (show zO m=M from by simp[zO,q]);have p1:((m.fK.length:Int) == 1200)=M:=by simp;omega
  clear q;go_enter func42,ntmps42;go_wp2_with(fail);go_ret;exact⟨zp HQ.out.symm,gG⟩
 have p1:((m.fK.length:Int) == 1200)=H:=by simp;omega
 obtain⟨b1,h1⟩:∃ b,gE m.Sp 0 1200=b:=⟨_,rfl⟩
 obtain⟨b2,h2⟩:∃ b,gE m.fY 0 2=b:=⟨_,rfl⟩
 have HQ:=fk (show zO m=(b1 && b2) from by simp[zO,q,h1,h2]);have H1:=fk h1;have H2:=fk h2;clear q h1 h2;cases b1 with
 | false=>
  go_enter func42,ntmps42;go_wp2_with(go_at_call 43;refine(iU _ _ _ _).mono ?_;first | (rw[H1.out];rintro e w1 ⟨rfl,rfl⟩));go_ret;exact⟨zp HQ.out.symm,gG⟩
 | true=>
  go_enter func42,ntmps42;go_wp2_with(go_at_call 43;refine(iU _ _ _ _).mono ?_;first | (rw[H1.out];rintro e w1 ⟨rfl,rfl⟩) | (rw[H2.out];rintro e w1 ⟨rfl,rfl⟩));go_ret;exact⟨zp (by rw[HQ.out];rfl),gG⟩
theorem xN {g:Prop} (f:g:=by
  have HR:=fk (show km x=H from by rw[HF.out,<-hE.out,VW];rfl)
  clear hE
  go_wp2_with(fail)
  go_ret
  exact⟨zp HR.out.symm,hG0.trans gF⟩):g:=f
theorem zm7 {x:gB} (h0:(jS.sl 103).R w w.heap.size [J A0 x.fo.fw.length c0] x.fo.fw)(h1:(zv.sl 3).R w w.heap.size [J A1 x.fo.fD.length c1] x.fo.fD)
  (h2:(zv.sl 3).R w w.heap.size [J A2 x.fo.fm.length c2] x.fo.fm) (h3:(lQ.sl 41).R w w.heap.size [J A3 x.fu.length c3] x.fu) (hs:zQ x<=1099511627776) :
  VK prog 13 #[.agg #[J A0 x.fo.fw.length c0,J A1 x.fo.fD.length c1,J A2 x.fo.fm.length c2,J A3 x.fu.length c3,C Z x.gM,C Z x.gO,C Z x.fW]] w fun r w'=>r=.returned (X (km x))/\fy w w':=by
 have a1:my x.fo<=1099511627776:=by unfold zQ at hs;omega
 have a5:nQ mM x.fu<=1099511627776:=by unfold zQ at hs;omega
 obtain⟨_,_,a6,aa,ab⟩:=mQ h3;injection a6 with e1 e2 e3
 subst e1 e3;clear e2 hs;obtain⟨b0,q0⟩:∃ b,ke x.fo=b:=⟨_,rfl⟩
 obtain⟨b1,q1⟩:∃ b,gE x.fu.length 1 3=b:=⟨_,rfl⟩
 obtain⟨b2,q2⟩:∃ b,gE x.gM 0 ((x.fu.length:Int)-1)=b:=⟨_,rfl⟩
 obtain⟨b3,q3⟩:∃ b,gE x.fW 1 1000=b:=⟨_,rfl⟩
 obtain⟨b4,q4⟩:∃ b,gE x.gO 1 x.fW=b:=⟨_,rfl⟩
 have HQ:=fk (show km x=(b0 && b1 && b2 && b3 && b4 && x.fu.all zO) from by unfold km;rw[q0,q1,q2,q3,q4]);have H0:=fk q0;have H1:=fk q1;have H2:=fk q2;have H3:=fk q3;have H4:=fk q4;have w1:Vl Z ((x.fu.length:Int)-1)=(x.fu.length:Int)-1:=iw;clear q0 q1 q2 q3 q4;cases b0 with
 | false=>
  have HF:=fk (show km x=M from by rw[HQ.out];simp);go_enter func13,ntmps13;go_wp2_with(go_at_call 45;refine(zfF (s:=x.fo) (Ty.up _ h0 gG) (Ty.up _ h1 gG) (Ty.up _ h2 gG) a1).mono ?_;rw[H0.out];rintro e w1 ⟨rfl,a0,d1,rfl⟩);go_ret;exact⟨zp HF.out.symm,gG⟩
 | true=>
 cases b1 with
 | false=>
  have HF:=fk (show km x=M from by rw[HQ.out];simp);go_enter func13,ntmps13
  go_wp2_with(first
   | (go_at_call 45;refine(zfF (s:=x.fo) (Ty.up _ h0 gG) (Ty.up _ h1 gG) (Ty.up _ h2 gG) a1).mono ?_;rw[H0.out];rintro e w1 ⟨rfl,a0,d1,rfl⟩)
   | (go_at_call 38;refine(lf _ _ _ _).mono ?_;first | (rw[H1.out];rintro e w1 ⟨rfl,rfl⟩)))
  go_ret;exact⟨zp HF.out.symm,gG⟩
 | true=>
 cases b2 with
 | false=>
  have HF:=fk (show km x=M from by rw[HQ.out];simp);go_enter func13,ntmps13
  go_wp2_with(first
   | (go_at_call 45;refine(zfF (s:=x.fo) (Ty.up _ h0 gG) (Ty.up _ h1 gG) (Ty.up _ h2 gG) a1).mono ?_;rw[H0.out];rintro e w1 ⟨rfl,a0,d1,rfl⟩)
   | (go_at_call 38;refine(lf _ _ _ _).mono ?_;first | (rw[H1.out];rintro e w1 ⟨rfl,rfl⟩) | (rw[H2.out];rintro e w1 ⟨rfl,rfl⟩)))
  go_ret;exact⟨zp HF.out.symm,gG⟩
 | true=>
 cases b3 with
 | false=>
  have HF:=fk (show km x=M from by rw[HQ.out];simp);go_enter func13,ntmps13
  go_wp2_with(first
   | (go_at_call 45;refine(zfF (s:=x.fo) (Ty.up _ h0 gG) (Ty.up _ h1 gG) (Ty.up _ h2 gG) a1).mono ?_;rw[H0.out];rintro e w1 ⟨rfl,a0,d1,rfl⟩)
   | (go_at_call 38;refine(lf _ _ _ _).mono ?_;first | (rw[H1.out];rintro e w1 ⟨rfl,rfl⟩) | (rw[H2.out];rintro e w1 ⟨rfl,rfl⟩) | (rw[H3.out];rintro e w1 ⟨rfl,rfl⟩)))
  go_ret;exact⟨zp HF.out.symm,gG⟩
 | true=>
 cases b4 with
 | false=>
  have HF:=fk (show km x=M from by rw[HQ.out];simp);go_enter func13,ntmps13
  go_wp2_with(first
   | (go_at_call 45;refine(zfF (s:=x.fo) (Ty.up _ h0 gG) (Ty.up _ h1 gG) (Ty.up _ h2 gG) a1).mono ?_;rw[H0.out];rintro e w1 ⟨rfl,a0,d1,rfl⟩)
   | (go_at_call 38;refine(lf _ _ _ _).mono ?_;first | (rw[H1.out];rintro e w1 ⟨rfl,rfl⟩) | (rw[H2.out];rintro e w1 ⟨rfl,rfl⟩) | (rw[H3.out];rintro e w1 ⟨rfl,rfl⟩) | (rw[H4.out];rintro e w1 ⟨rfl,rfl⟩)))
  go_ret;exact⟨zp HF.out.symm,gG⟩
 | true=>
 have HF:=fk (show km x=x.fu.all zO from by rw[HQ.out];simp);go_enter func13,ntmps13
 go_wp2_with(first
   | (go_at_call 45;refine(zfF (s:=x.fo) (Ty.up _ h0 gG) (Ty.up _ h1 gG) (Ty.up _ h2 gG) a1).mono ?_;rw[H0.out];rintro e w1 ⟨rfl,a0,d1,rfl⟩)
   | (go_at_call 38;refine(lf _ _ _ _).mono ?_;first | (rw[H1.out];rintro e w1 ⟨rfl,rfl⟩) | (rw[H2.out];rintro e w1 ⟨rfl,rfl⟩) | (rw[H3.out];rintro e w1 ⟨rfl,rfl⟩) | (rw[H4.out];rintro e w1 ⟨rfl,rfl⟩)))
 have hG0:fy w (fH (w.alloc (U #[J A0 x.fo.fw.length c0,J A1 x.fo.fD.length c1,J A2 x.fo.fm.length c2,J A3 x.fu.length c3,C Z x.gM,C Z x.gO,C Z x.fW] 34)) a0 d1):=gG;have eb:(fH (w.alloc (U #[J A0 x.fo.fw.length c0,J A1 x.fo.fD.length c1,J A2 x.fo.fm.length c2,J A3 x.fu.length c3,C Z x.gM,C Z x.gO,C Z x.fW] 34)) a0 d1).heap[w.heap.size]?=F (U #[J A0 x.fo.fw.length c0,J A1 x.fo.fD.length c1,J A2 x.fo.fm.length c2,J A3 x.fu.length c3,C Z x.gM,C Z x.gO,C Z x.fW] 34 (0,0)):=zj (Vj w _) gF;have k3:=Ty.up _ h3 hG0;obtain⟨g0,a3⟩:∃ g0,w.heap.size=g0:=⟨_,rfl⟩
 rw[a3] at eb |-;generalize (fH (w.alloc _) a0 d1)=Y at hG0 eb k3 |-;have hc:=fun k=>WC Y g0 k _ _ (0,0) eb;have y1:Vg Y ⟨g0,3,I⟩=F (J A3 x.fu.length c3):=hc 3;have yl:g0<Y.heap.size:=(blt eb)
 clear h0 h1 h2 h3 a3 hc eb;go_loopw [43] (fun z wr=>∃ k:Nat,z=C Z k/\k<=x.fu.length/\Hid ((x.fu.drop k).all zO=x.fu.all zO)/\Hid (fy Y wr)) (fun z _=>x.fu.length-(Wj z).toNat)
 case atStart=>exact⟨0,rfl,Vu _,fk rfl,fk (fy.refl _)⟩
 case round=>
  obtain⟨k,rfl,hk,hE,hG⟩:=hrel;obtain⟨os,d,rfl⟩:=hG.out;clear hG;have ad:=zd y1 os d;by_cases hlt:k<x.fu.length
  ·obtain⟨g,ac,y,Aa,ca,Ab,cb,rfl,a8,a2,m0,m1,m2,m3,m4,m5,m6,_⟩:=Bz k3 hlt
   have ha:=DD a2 zO;rw[hE.out] at ha;have n0:=zd m0 os d;have n1:=zd m1 os d;have n2:=zd m2 os d;have n3:=zd m3 os d;have n4:=zd m4 os d;have n5:=zd m5 os d;have n6:=zd m6 os d;have a9:(k:Int)<(x.fu.length:Int):=fh;have a4:y.fK.length<=1099511627776:=by have h1:=yD mM a2;unfold mM at h1 a5;omega
   obtain⟨b,hb⟩:∃ b,zO y=b:=⟨_,rfl⟩
   rw[hb] at ha;have HB:=fk hb;clear hb a2 hE m0 m1 m2 m3 m4 m5 m6;cases b with
   | false=>
    have HR:=fk (show km x=M from by rw[HF.out,ha];rfl);clear ha;go_wp2_with(go_at_call 46;refine(zfd (m:=y) a4).mono ?_;rw[HB.out];rintro e w2 ⟨rfl,a7,d2,rfl⟩);go_ret;exact⟨zp HR.out.symm,hG0.trans gF⟩
   | true=>
    have HR:=fk (show (x.fu.drop (k+1)).all zO=x.fu.all zO from by rw[ha];rfl);clear ha;go_wp2_with(go_at_call 46;refine(zfd (m:=y) a4).mono ?_;rw[HB.out];rintro e w2 ⟨rfl,a7,d2,rfl⟩);go_roundw;exact⟨k+1,io,fh,HR,fk gG⟩;exact iC
  ·obtain rfl:k=x.fu.length:=fh
   exact xN
theorem zfT {x:gB} (h0:(jS.sl 103).R w w.heap.size [J A0 x.fo.fw.length c0] x.fo.fw)(h1:(zv.sl 3).R w w.heap.size [J A1 x.fo.fD.length c1] x.fo.fD)
  (h2:(zv.sl 3).R w w.heap.size [J A2 x.fo.fm.length c2] x.fo.fm) (h3:(lQ.sl 41).R w w.heap.size [J A3 x.fu.length c3] x.fu) (hs:zQ x<=1099511627776) :
  VK prog 47 #[.agg #[J A0 x.fo.fw.length c0,J A1 x.fo.fD.length c1,J A2 x.fo.fm.length c2,J A3 x.fu.length c3,C Z x.gM,C Z x.gO,C Z x.fW]] w fun r w'=>r=.returned (X (km x))/\fy w w':=by
 have a1:my x.fo<=1099511627776:=by unfold zQ at hs;omega
 have a5:nQ mM x.fu<=1099511627776:=by unfold zQ at hs;omega
 obtain⟨_,_,a6,aa,ab⟩:=mQ h3;injection a6 with e1 e2 e3
 subst e1 e3;clear e2 hs;obtain⟨b0,q0⟩:∃ b,ke x.fo=b:=⟨_,rfl⟩
 obtain⟨b1,q1⟩:∃ b,gE x.fu.length 1 3=b:=⟨_,rfl⟩
 obtain⟨b2,q2⟩:∃ b,gE x.gM 0 ((x.fu.length:Int)-1)=b:=⟨_,rfl⟩
 obtain⟨b3,q3⟩:∃ b,gE x.fW 1 1000=b:=⟨_,rfl⟩
 obtain⟨b4,q4⟩:∃ b,gE x.gO 1 x.fW=b:=⟨_,rfl⟩
 have HQ:=fk (show km x=(b0 && b1 && b2 && b3 && b4 && x.fu.all zO) from by unfold km;rw[q0,q1,q2,q3,q4]);have H0:=fk q0;have H1:=fk q1;have H2:=fk q2;have H3:=fk q3;have H4:=fk q4;have w1:Vl Z ((x.fu.length:Int)-1)=(x.fu.length:Int)-1:=iw;clear q0 q1 q2 q3 q4;cases b0 with
 | false=>
  have HF:=fk (show km x=M from by rw[HQ.out];simp);go_enter func47,ntmps47;go_wp2_with(go_at_call 41;refine(zcj (s:=x.fo) (Ty.up _ h0 gG) (Ty.up _ h1 gG) (Ty.up _ h2 gG) a1).mono ?_;rw[H0.out];rintro e w1 ⟨rfl,a0,d1,rfl⟩);go_ret;exact⟨zp HF.out.symm,gG⟩
 | true=>
 cases b1 with
 | false=>
  have HF:=fk (show km x=M from by rw[HQ.out];simp);go_enter func47,ntmps47
  go_wp2_with(first
   | (go_at_call 41;refine(zcj (s:=x.fo) (Ty.up _ h0 gG) (Ty.up _ h1 gG) (Ty.up _ h2 gG) a1).mono ?_;rw[H0.out];rintro e w1 ⟨rfl,a0,d1,rfl⟩)
   | (go_at_call 43;refine(iU _ _ _ _).mono ?_;first | (rw[H1.out];rintro e w1 ⟨rfl,rfl⟩)))
  go_ret;exact⟨zp HF.out.symm,gG⟩
 | true=>
 cases b2 with
 | false=>
  have HF:=fk (show km x=M from by rw[HQ.out];simp);go_enter func47,ntmps47
  go_wp2_with(first
   | (go_at_call 41;refine(zcj (s:=x.fo) (Ty.up _ h0 gG) (Ty.up _ h1 gG) (Ty.up _ h2 gG) a1).mono ?_;rw[H0.out];rintro e w1 ⟨rfl,a0,d1,rfl⟩)
   | (go_at_call 43;refine(iU _ _ _ _).mono ?_;first | (rw[H1.out];rintro e w1 ⟨rfl,rfl⟩) | (rw[H2.out];rintro e w1 ⟨rfl,rfl⟩)))
  go_ret;exact⟨zp HF.out.symm,gG⟩
 | true=>
 cases b3 with
 | false=>
  have HF:=fk (show km x=M from by rw[HQ.out];simp);go_enter func47,ntmps47
  go_wp2_with(first
   | (go_at_call 41;refine(zcj (s:=x.fo) (Ty.up _ h0 gG) (Ty.up _ h1 gG) (Ty.up _ h2 gG) a1).mono ?_;rw[H0.out];rintro e w1 ⟨rfl,a0,d1,rfl⟩)
   | (go_at_call 43;refine(iU _ _ _ _).mono ?_;first | (rw[H1.out];rintro e w1 ⟨rfl,rfl⟩) | (rw[H2.out];rintro e w1 ⟨rfl,rfl⟩) | (rw[H3.out];rintro e w1 ⟨rfl,rfl⟩)))
  go_ret;exact⟨zp HF.out.symm,gG⟩
 | true=>
 cases b4 with
 | false=>
  have HF:=fk (show km x=M from by rw[HQ.out];simp);go_enter func47,ntmps47
  go_wp2_with(first
   | (go_at_call 41;refine(zcj (s:=x.fo) (Ty.up _ h0 gG) (Ty.up _ h1 gG) (Ty.up _ h2 gG) a1).mono ?_;rw[H0.out];rintro e w1 ⟨rfl,a0,d1,rfl⟩)
   | (go_at_call 43;refine(iU _ _ _ _).mono ?_;first | (rw[H1.out];rintro e w1 ⟨rfl,rfl⟩) | (rw[H2.out];rintro e w1 ⟨rfl,rfl⟩) | (rw[H3.out];rintro e w1 ⟨rfl,rfl⟩) | (rw[H4.out];rintro e w1 ⟨rfl,rfl⟩)))
  go_ret;exact⟨zp HF.out.symm,gG⟩
 | true=>
 have HF:=fk (show km x=x.fu.all zO from by rw[HQ.out];simp);go_enter func47,ntmps47
 go_wp2_with(first
   | (go_at_call 41;refine(zcj (s:=x.fo) (Ty.up _ h0 gG) (Ty.up _ h1 gG) (Ty.up _ h2 gG) a1).mono ?_;rw[H0.out];rintro e w1 ⟨rfl,a0,d1,rfl⟩)
   | (go_at_call 43;refine(iU _ _ _ _).mono ?_;first | (rw[H1.out];rintro e w1 ⟨rfl,rfl⟩) | (rw[H2.out];rintro e w1 ⟨rfl,rfl⟩) | (rw[H3.out];rintro e w1 ⟨rfl,rfl⟩) | (rw[H4.out];rintro e w1 ⟨rfl,rfl⟩)))
 have hG0:fy w (fH (w.alloc (U #[J A0 x.fo.fw.length c0,J A1 x.fo.fD.length c1,J A2 x.fo.fm.length c2,J A3 x.fu.length c3,C Z x.gM,C Z x.gO,C Z x.fW] 34)) a0 d1):=gG;have eb:(fH (w.alloc (U #[J A0 x.fo.fw.length c0,J A1 x.fo.fD.length c1,J A2 x.fo.fm.length c2,J A3 x.fu.length c3,C Z x.gM,C Z x.gO,C Z x.fW] 34)) a0 d1).heap[w.heap.size]?=F (U #[J A0 x.fo.fw.length c0,J A1 x.fo.fD.length c1,J A2 x.fo.fm.length c2,J A3 x.fu.length c3,C Z x.gM,C Z x.gO,C Z x.fW] 34 (0,0)):=zj (Vj w _) gF;have k3:=Ty.up _ h3 hG0;obtain⟨g0,a3⟩:∃ g0,w.heap.size=g0:=⟨_,rfl⟩
 rw[a3] at eb |-;generalize (fH (w.alloc _) a0 d1)=Y at hG0 eb k3 |-;have hc:=fun k=>WC Y g0 k _ _ (0,0) eb;have y1:Vg Y ⟨g0,3,I⟩=F (J A3 x.fu.length c3):=hc 3;have yl:g0<Y.heap.size:=(blt eb)
 clear h0 h1 h2 h3 a3 hc eb;go_loopw [3] (fun z wr=>∃ k:Nat,z=C Z k/\k<=x.fu.length/\Hid ((x.fu.drop k).all zO=x.fu.all zO)/\Hid (fy Y wr)) (fun z _=>x.fu.length-(Wj z).toNat)
 case atStart=>exact⟨0,rfl,Vu _,fk rfl,fk (fy.refl _)⟩
 case round=>
  obtain⟨k,rfl,hk,hE,hG⟩:=hrel;obtain⟨os,d,rfl⟩:=hG.out;clear hG;have ad:=zd y1 os d;by_cases hlt:k<x.fu.length
  ·obtain⟨g,ac,y,Aa,ca,Ab,cb,rfl,a8,a2,m0,m1,m2,m3,m4,m5,m6,_⟩:=Bz k3 hlt
   have ha:=DD a2 zO;rw[hE.out] at ha;have n0:=zd m0 os d;have n1:=zd m1 os d;have n2:=zd m2 os d;have n3:=zd m3 os d;have n4:=zd m4 os d;have n5:=zd m5 os d;have n6:=zd m6 os d;have a9:(k:Int)<(x.fu.length:Int):=fh;have a4:y.fK.length<=1099511627776:=by have h1:=yD mM a2;unfold mM at h1 a5;omega
   obtain⟨b,hb⟩:∃ b,zO y=b:=⟨_,rfl⟩
   rw[hb] at ha;have HB:=fk hb;clear hb a2 hE m0 m1 m2 m3 m4 m5 m6;cases b with
   | false=>
    have HR:=fk (show km x=M from by rw[HF.out,ha];rfl);clear ha;go_wp2_with(go_at_call 42;refine(zli (m:=y) a4).mono ?_;rw[HB.out];rintro e w2 ⟨rfl,a7,d2,rfl⟩);go_ret;exact⟨zp HR.out.symm,hG0.trans gF⟩
   | true=>
    have HR:=fk (show (x.fu.drop (k+1)).all zO=x.fu.all zO from by rw[ha];rfl);clear ha;go_wp2_with(go_at_call 42;refine(zli (m:=y) a4).mono ?_;rw[HB.out];rintro e w2 ⟨rfl,a7,d2,rfl⟩);go_roundw;exact⟨k+1,io,fh,HR,fk gG⟩;exact iC
  ·obtain rfl:k=x.fu.length:=fh
   exact xN
def kW (n:Int):Int:=(n+2147483648) % 4294967296-2147483648
def kS (code a b:Int):Int:=
 if code=5 then kW (kW a+kW b)
 else if code=6 then kW (kW a-kW b)
 else if code=7 then kW (kW a*kW b)
 else if code=8 then (if kW a<kW b then 1 else 0)
 else if code=9 then (if kW a=kW b then 1 else 0)
 else 0
def mW (m:fF)(a:Int):N Int:=if gE a 0 1199=H then m.fK[a.toNat]? else I
def jm (m:fF)(v:Int):N fF:=if gE m.Sp 1 1200=H then F { m with Sp:=m.Sp-1,fK:=m.fK.set (m.Sp-1).toNat v } else I
def iR (m:fF):N (fF × Int):=(mW m m.Sp).map fun v=>({ m with Sp:=m.Sp+1 },v)
def nI (m:fF)(a v:Int):N fF:=if gE a 0 1199=H then F { m with fK:=m.fK.set a.toNat v } else I
def kt:Nat->fF->N fF
 | 0,m=>F m
 | n+1,m=>(iR m).bind fun p=>kt n p.1
def qR:Nat->fF->N fF
 | 0,m=>F m
 | n+1,m=>(jm m 0).bind fun m'=>qR n m'
def zR (es:D Int)(m:fF)(code arg:Int):N fF:=
 if code=0 then jm m arg
 else if code=1 then (mW m (m.Fp+arg)).bind fun v=>jm m v
 else if code=3 then (mW m (m.Sp+arg)).bind fun v=>jm m v
 else if code=2 then (iR m).bind fun p=>nI p.1 (m.Fp+arg) p.2
 else if code=4 then (iR m).bind fun p=>nI p.1 (m.Sp+arg) p.2
 else if code=10 then F { m with Pc:=m.Pc+arg }
 else if code=11 then (iR m).map fun p=>if p.2=0 then { p.1 with Pc:=p.1.Pc+arg } else p.1
 else if code=12 then (jm m m.Pc).bind fun m'=>(es[arg.toNat]?).map fun e=>{ m' with Pc:=e }
 else if code=13 then (jm m m.Fp).bind fun m'=>qR arg.toNat { m' with Fp:=m'.Sp }
 else if code=15 then qR arg.toNat m
 else if code=14 then (iR m).bind fun p=>(iR { p.1 with Sp:=p.1.Fp }).bind fun q=>(iR { q.1 with Fp:=q.2 }).bind fun r=>(kt arg.toNat { r.1 with Pc:=r.2 }).bind fun m'=>jm m' p.2
 else if code=16 then (iR m).bind fun p=>(kt (arg.toNat / 16) p.1).bind fun m1=>(iR m1).bind fun r=>(kt (arg.toNat % 16) { r.1 with Pc:=r.2 }).bind fun m'=>jm m' p.2
 else if code=17 then (iR m).map fun p=>{ p.1 with iE:=p.1.iE++[p.2] }
 else (iR m).bind fun p=>(iR p.1).bind fun q=>jm q.1 (kS code q.2 p.2)
def oW (m:fF):N fF:=if m.Pc=0 then (mW m m.Sp).map fun v=>{ m with fY:=1,Value:=v } else F m
def mC (s:gQ)(m:fF):fF:=
 let l:=loc s m.Pc
 match (if l.1<0 then I else s.fw[l.1.toNat]?) with
 | none=>{ m with fY:=2 }
 | some i=>
  let r:=ku i.Code l.2
  if r.ok=H then (((zR s.fm { m with Pc:=m.Pc+r.n } r.code r.arg).bind oW).getD { m with fY:=2 }) else { m with fY:=2 }
def uw (v:Int):iq:=⟨0,v,iK⟩
def qp (t:iq)(l:D iq):D iq:=
 match l with
 | [a,b]=>if gE t.fC 2 6=H/\a.fC=0/\b.fC=0/\gE (kS (t.fC+3) a.iY b.iY) 0 999=H then [uw (kS (t.fC+3) a.iY b.iY)] else t::l
 | _=>t::l
mutual
def Ex.fold:Ex->D iq
 | .node t ks=>qp t ks.fold
def ig.fold:ig->D iq
 | .nil=>[]
 | .cons e r=>e.fold++r.fold
end
theorem CA (t:iq)(l:D iq):qp t l=t::l∨∃ a b,l = [a,b]/\gE t.fC 2 6=H/\a.fC=0/\b.fC=0/\gE (kS (t.fC+3) a.iY b.iY) 0 999=H/\qp t l = [uw (kS (t.fC+3) a.iY b.iY)]:=by
 unfold qp;split
 ·rename_i a b
  by_cases h:gE t.fC 2 6=H/\a.fC=0/\b.fC=0/\gE (kS (t.fC+3) a.iY b.iY) 0 999=H
  ·rw[Vs h]
   exact .inr ⟨a,b,rfl,h.1,h.2.1,h.2.2.1,h.2.2.2,rfl⟩
  ·rw[Vo h];exact .inl rfl
 ·exact .inl rfl
theorem Jv (h:gE v 0 999=H):mR (uw v)=H:=by
 unfold mR uw;simp[h]
mutual
theorem Ex.jf:∀ e:Ex,e.wf->∃ e':Ex,e'.wf/\e'.flat=e.fold/\e'.size<=e.size
 | .node t ks,h=>by
  obtain⟨h1,h2,h3⟩:=h;obtain⟨a0,g1,g2,g3,g4⟩:=ig.jf ks h3;simp only[Ex.fold,Ex.size];rcases CA t ks.fold with hf | ⟨a,b,_,_,_,_,hv,hf⟩
  ·rw[hf]
   exact⟨.node t a0,⟨h1,by rw[g2];exact h2,g1⟩,by simp only[Ex.flat,g3],by simp only[Ex.size];omega⟩
  ·rw[hf]
   refine⟨.node (uw (kS (t.fC+3) a.iY b.iY)) .nil,⟨Jv hv,?_,trivial⟩,rfl,by simp only[Ex.size,ig.size];omega⟩;unfold j9;rw[Vs (Jv hv)];rfl
theorem ig.jf:∀ ks:ig,ks.wf->∃ ks':ig,ks'.wf/\ks'.len=ks.len/\ks'.flat=ks.fold/\ks'.size<=ks.size
 | .nil,_=>⟨.nil,trivial,rfl,rfl,Vz _⟩
 | .cons e r,h=>by
  obtain⟨e',h1,h2,h3⟩:=Ex.jf e h.1;obtain⟨r',g1,g2,g3,g4⟩:=ig.jf r h.2;exact⟨.cons e' r',⟨h1,g1⟩,by simp only[ig.len,g2],by simp only[ig.flat,ig.fold,h2,g3],by simp only[ig.size];omega⟩
end
mutual
theorem Ex.lz:∀(e:Ex)(t:iq),t∈e.fold->t∈e.flat∨t.fC=0
 | .node t ks,u,h=>by
  simp only[Ex.fold] at h;simp only[Ex.flat,VT];rcases CA t ks.fold with hf | ⟨a,b,_,_,_,_,hv,hf⟩
  ·rw[hf] at h
   rcases VT.1 h with h | h
   ·exact .inl (.inl h)
   ·rcases ig.lz ks u h with h | h
    ·exact .inl (.inr h)
    ·exact .inr h
  ·rw[hf] at h
   rw[Vi.1 h];exact .inr rfl
theorem ig.lz:∀(ks:ig)(t:iq),t∈ks.fold->t∈ks.flat∨t.fC=0
 | .nil,u,h=>by simp[ig.fold] at h
 | .cons e r,u,h=>by
  simp only[ig.fold,VA] at h;simp only[ig.flat,VA];rcases h with h | h
  ·rcases Ex.lz e u h with h | h
   ·exact .inl (.inl h)
   ·exact .inr h
  ·rcases ig.lz r u h with h | h
   ·exact .inl (.inr h)
   ·exact .inr h
end
def vX (xs:D iq):Nat->Nat->Nat->D iq × Nat
 | 0,_,a=>([],a)
 | _+1,0,a=>([],a)
 | f+1,n+1,a=>match xs[a]? with
  | none=>([],a)
  | some t=>(qp t (vX xs f (j9 t).toNat (a+1)).1++(vX xs f n (vX xs f (j9 t).toNat (a+1)).2).1,(vX xs f n (vX xs f (j9 t).toNat (a+1)).2).2)
theorem EG {xs:D iq}:∀(f:Nat)(ks:ig)(a:Nat)(r:D iq),ks.wf->xs.drop a=ks.flat++r->ks.size<f->vX xs f ks.len a=(ks.fold,a+ks.size)
 | 0,_,_,_,_,_,hf=>fh
 | f+1,.nil,a,r,_,_,_=>rfl
 | f+1,.cons (.node t ks) q,a,r,h,hx,hf=>by
  simp only[ig.flat,Ex.flat,Xl,VM] at hx;simp only[ig.size,Ex.size] at hf;obtain⟨h1,h2⟩:=Aw hx;simp only[ig.len,vX,h1];have e1:=EG f ks (a+1) _ h.1.2.2 h2 fh;rw[h.1.2.1,Vy,e1]
  have h3:xs.drop (a+1+ks.size)=q.flat++r:=by
   rw[<-Xx,h2,<-ks.ie,Yg]
  rw[EG f q _ r h.2 h3 fh];simp only[ig.fold,Ex.fold,ig.size,Ex.size];congr 1;omega
def tj (xs:D iq):D iq:=if rH xs=H then (vX xs (xs.length+1) 1 0).1 else []
theorem Oe {e:Ex} (h:e.wf)(hx:rH e.flat=H):tj e.flat=e.fold:=by
 unfold tj;rw[Vs hx];have:=EG (xs:=e.flat) (e.flat.length+1) (.cons e .nil) 0 [] ⟨h,trivial⟩ (by simp[ig.flat]) (by simp only[ig.size,e.ie];omega);simp only[ig.len,VJ] at this;rw[this];simp[ig.fold]
theorem Cm {xs:D iq} (h:rH xs=H):∃ e:Ex,e.wf/\xs=e.flat/\xs.length<=20/\tj xs=e.fold:=by
 obtain⟨e,h1,h2,h3⟩:=G6 h;subst h2;exact⟨e,h1,rfl,h3,Oe h1 h⟩
mutual
theorem Ex.kR:∀(e e':Ex),e.wf->e'.wf->∀(r r':D iq),e.flat++r=e'.flat++r'->e=e'/\r=r'
 | .node t ks,.node t' ks',h,h',r,r',hx=>by
  simp only[Ex.flat,Xl,XB] at hx;obtain⟨rfl,hx⟩:=hx;obtain⟨h1,h2⟩:=ig.kR ks ks' h.2.2 h'.2.2 (by have:=h.2.1;have:=h'.2.1;omega) r r' hx;exact⟨by rw[h1],h2⟩
theorem ig.kR:∀(ks ks':ig),ks.wf->ks'.wf->ks.len=ks'.len->∀(r r':D iq),ks.flat++r=ks'.flat++r'->ks=ks'/\r=r'
 | .nil,.nil,_,_,_,r,r',hx=>⟨rfl,by simpa[ig.flat] using hx⟩
 | .nil,.cons _ _,_,_,hl,_,_,_=>by simp[ig.len] at hl
 | .cons _ _,.nil,_,_,hl,_,_,_=>by simp[ig.len] at hl
 | .cons e q,.cons e' q',h,h',hl,r,r',hx=>by
  simp only[ig.flat,VM] at hx;obtain⟨h1,h2⟩:=Ex.kR e e' h.1 h'.1 _ _ hx;obtain⟨h3,h4⟩:=ig.kR q q' h.2 h'.2 (by simpa[ig.len] using hl) r r' h2;exact⟨by rw[h1,h3],h4⟩
end
def ld (l:D G)(s:G):Bool:=l.any fun y=>decide (y=s)
def sF (k:Int):Bool:=decide (k=1) || (decide (k=2) || (decide (k=3) || (decide (k=5) || decide (k=6))))
def sJ:D G->D G->Bool
 | _,[]=>H
 | pre,x::r=>mN x && (!(ld pre x) && sJ (pre++[x]) r)
def BU (l:D G):Bool:=decide (l.length<=4) && sJ [] l
def yJ (x:fB):Bool:=if x.fC=0∨x.fC=1 then mN x.fJ else decide (x.fJ=iK)
def rF (x:fB):Bool:=if x.fC=0 then BU x.gD else decide (x.gD.length=0)
def tx (x:fB):Bool:=if sF x.fC=H then rH x.Expr else decide (x.Expr.length=0)
def qo (x:fB):Bool:=gE x.fC 0 7 && (yJ x && (rF x && tx x))
def lJ:D fB->Nat->D Int
 | [],_=>[]
 | x::r,i=>if x.fC=0 then (i:Int)::lJ r (i+1) else lJ r (i+1)
def zn (p:D fB):D Int:=lJ p 0
def qm:D fB->G->Nat->Int
 | [],_,_=>-1
 | x::r,s,i=>if x.fC=0/\x.fJ=s then (i:Int) else qm r s (i+1)
def lZ (p:D fB)(s:G):Int:=qm p s 0
def tt (out:D G)(x:fB):D G:=if x.fC=1/\ld out x.fJ=M then out++[x.fJ] else out
def qF:D fB->Nat->D G->D G
 | _,0,out=>out
 | [],_+1,out=>out
 | x::r,n+1,out=>qF r n (tt out x)
def zu (p:D fB)(k:Int):D G:=if jA p k<0 then [] else match p[k.toNat]? with
 | none=>[]
 | some x=>if x.fC=0 then qF (p.drop k.toNat) ((jA p k).toNat-k.toNat) x.gD else []
def mK (p:D fB)(fM:D G)(t:iq):Bool:=
 if t.fC=1 then ld fM t.fJ else if t.fC=7 then (if lZ p t.fJ<0 then M else match p[(lZ p t.fJ).toNat]? with
  | none=>M
  | some x=>decide ((x.gD.length:Int)=t.iY)) else H
def zU (p:D fB)(fM:D G)(l:D iq):Bool:=l.all (mK p fM)
def rZ (p:D fB)(k i:Nat):Bool:=(Yj k (i-k)).any fun j=>decide (kH p j=i)
def pB (p:D fB)(fM:D G)(k i:Nat)(x:fB):Bool:=
 (!decide (x.fC=0)) && ((if x.fC=4 then rZ p k i else H) && (decide (zM p (i+1)-zM p (k+1)<=4) && zU p fM x.Expr))
def tv (p:D fB)(fM:D G)(k:Nat):D fB->Nat->Nat->Bool
 | _,0,_=>H
 | [],_+1,_=>H
 | x::r,n+1,i=>pB p fM k i x && tv p fM k r n (i+1)
def oy (p:D fB)(k e:Nat):Bool:=decide ((zu p k).length<=8) && tv p (zu p k) k (p.drop (k+1)) (e-(k+1)) (k+1)
def qQ (p:D fB):Nat->Nat->Bool
 | 0,_=>H
 | n+1,k=>match p[k]? with
  | none=>H
  | some x=>decide (x.fC=0) && (decide (0<=jA p k) && (oy p k (jA p k).toNat && qQ p n ((jA p k).toNat+1)))
def vp:G:=⟨#[109,97,105,110]⟩
def r8 (p:D fB):Bool:=match p[0]? with
 | none=>M
 | some x=>decide (x.fC=0) && (decide (x.fJ=vp) && decide (x.gD.length=0))
def uv (p:D fB)(k:Nat)(x:fB):Bool:=qo x && (if x.fC=0 then decide (lZ p x.fJ=k) else H)
def qL (p:D fB):D fB->Nat->Bool
 | [],_=>H
 | x::r,k=>uv p k x && qL p r (k+1)
def zA (p:D fB):Bool:=decide (p.length<=60) && (r8 p && (decide ((zn p).length<=6) && (qL p p 0 && qQ p p.length 0)))
theorem CI {l:D fB} (h:l[i]?=F x):qL p (l.drop i) i=(uv p i x && qL p (l.drop (i+1)) (i+1)):=by
 obtain⟨h1,rfl⟩:=Vh.1 h;rw[VB h1];rfl
theorem Hx {p:D fB}:∀(l:D fB)(k i:Nat)(x:fB),qL p l k=H->l[i]?=F x->uv p (k+i) x=H
 | [],_,_,_,_,h=>by simp at h
 | y::r,k,0,x,h,hx=>by
  simp only[qL,Vt] at h;simp only[VU,VO] at hx;rw[<-hx];exact h.1
 | y::r,k,i+1,x,h,hx=>by
  simp only[qL,Vt] at h;have:=Hx r (k+1) i x h.2 (by simpa using hx);rwa [show k+1+i=k+(i+1) from fh] at this
theorem IQ:∀(l:D fB)(s:G)(k:Nat),qm l s k = -1∨∃(i:Nat)(x:fB),qm l s k=((k+i:Nat):Int)/\l[i]?=F x/\x.fC=0/\x.fJ=s
 | [],_,_=>.inl rfl
 | y::r,s,k=>by
  unfold qm;by_cases h:y.fC=0/\y.fJ=s
  ·rw[Vs h]
   exact .inr ⟨0,y,rfl,rfl,h.1,h.2⟩
  ·rw[Vo h]
   rcases IQ r s (k+1) with h1 | ⟨i,x,h1,h2,h3,h4⟩
   ·exact .inl h1
   ·exact .inr ⟨i+1,x,by rw[h1];congr 1;omega,by simpa using h2,h3,h4⟩
theorem Od (p:D fB)(s:G):lZ p s = -1∨∃(i:Nat)(x:fB),lZ p s=(i:Int)/\p[i]?=F x/\x.fC=0/\x.fJ=s:=by
 rcases IQ p s 0 with h | ⟨i,x,h1,h2,h3,h4⟩
 ·exact .inl h
 ·exact .inr ⟨i,x,by unfold lZ;rw[h1];simp,h2,h3,h4⟩
theorem uR {e:Nat} (h:p[i]?=F x)(hi:i<e):tv p fM k (p.drop i) (e-i) i=(pB p fM k i x && tv p fM k (p.drop (i+1)) (e-(i+1)) (i+1)):=by
 obtain⟨h1,rfl⟩:=Vh.1 h;rw[VB h1,show e-i=e-(i+1)+1 from fh];rfl
theorem Hk {p:D fB}{fM:D G}{k:Nat}:∀(l:D fB)(n a i:Nat)(x:fB),tv p fM k l n a=H->i<n->l[i]?=F x->pB p fM k (a+i) x=H
 | [],_,_,_,_,_,_,h=>by simp at h
 | y::r,0,_,_,_,_,hi,_=>fh
 | y::r,n+1,a,0,x,h,_,hx=>by
  simp only[tv,Vt] at h;simp only[VU,VO] at hx;rw[<-hx];exact h.1
 | y::r,n+1,a,i+1,x,h,hi,hx=>by
  simp only[tv,Vt] at h;have:=Hk r n (a+1) i x h.2 fh (by simpa using hx);rwa [show a+1+i=a+(i+1) from fh] at this
theorem Em {e:Nat} (h:oy p k e=H)(h1:k<i)(h2:i<e)(hx:p[i]?=F x):pB p (zu p k) k i x=H:=by
 unfold oy at h;simp only[Vt] at h;have:=Hk _ _ _ (i-(k+1)) x h.2 fh (by rw[Xi,show k+1+(i-(k+1))=i from fh];exact hx);rwa [show k+1+(i-(k+1))=i from fh] at this
theorem IU {p:D fB}:∀(n k:Nat),p.length-k<=n->qQ p n k=H->∀(i:Nat)(x:fB),k<=i->p[i]?=F x->x.fC=0->∃ e,gZ p i e/\oy p i e=H
 | 0,k,hn,_,i,x,hi,hx,_=>by have:=(Vh.1 hx).1;omega
 | n+1,k,hn,h,i,x,hi,hx,h0=>by
  have a0:=(Vh.1 hx).1;have hk:p[k]?=F p[k]:=Vq (by omega);simp only[qQ,hk,Vt,VD] at h;obtain⟨h1,h2,h3,h4⟩:=h;rcases zs p k with⟨g,_⟩ | ⟨e,g1,g2⟩
  ·rw[g] at h2;omega
  ·rw[g1,Vy] at h3 h4
   rcases Y7 hi with hh | hh
   ·subst hh
    exact⟨e,g2,h3⟩
   ·have a1:=g2.lt
    by_cases hie:i<=e
    ·exfalso
     by_cases hee:i=e
     ·subst hee
      obtain⟨y,hy,h7⟩:=g2.last;rw[hx] at hy;injection hy with hy
      rw[hy,h7] at h0;cases h0
     ·have:=Em h3 hh (by omega) hx
      unfold pB at this;simp[h0] at this
    ·exact IU n (e+1) (by omega) h4 i x (by omega) hx h0
structure nK (p:D fB):Prop where
 len:p.length<=60
 head:∃ x:fB,p[0]?=F x/\x.fC=0/\x.fJ=vp/\x.gD = []
 line:∀(i:Nat) (x:fB),p[i]?=F x->qo x=H
 own:∀(i:Nat) (x:fB),p[i]?=F x->x.fC=0->lZ p x.fJ=i
 ov:(zn p).length<=6
 body:∀(i:Nat) (x:fB),p[i]?=F x->x.fC=0->∃ e,gZ p i e/\oy p i e=H
theorem qC (h:zA p=H):nK p:=by
 unfold zA at h;simp only[Vt,VD] at h;obtain⟨h1,h2,h3,h4,h5⟩:=h
 have hl:∀(i:Nat) (x:fB),p[i]?=F x->uv p i x=H:=fun i x hx=>by
  have:=Hx p 0 i x h4 hx;rwa [VJ] at this
 refine⟨h1,?_,fun i x hx=>?_,fun i x hx h0=>?_,h3,fun i x hx h0=>IU _ 0 fh h5 i x (Vu _) hx h0⟩
 ·unfold r8 at h2
  cases hp:p[0]? with
  | none=>rw[hp] at h2;cases h2
  | some x=>
   rw[hp] at h2;simp only[Vt,VD,XT] at h2;exact⟨x,rfl,h2⟩
 ·have:=hl i x hx
  unfold uv at this;simp only[Vt] at this;exact this.1
 ·have:=hl i x hx
  unfold uv at this;simp only[Vt,h0,Xe,VD] at this;exact this.2
def zW (x:fB):fB:={ x with Expr:=if 0<x.Expr.length then tj x.Expr else x.Expr }
def qE (p:D fB):D fB:=if zA p=H then p.map zW else []
def iP (p q:D fB):Prop:=p.map fB.fC=q.map fB.fC
theorem iP.len (h:iP p q):p.length=q.length:=by
 have:=WY List.length h;simpa using this
theorem iP.at (h:iP p q)(i:Nat):(p[i]?).map fB.fC=(q[i]?).map fB.fC:=by
 have:=WY (fun l=>l[i]?) h;simpa using this
theorem iP.get (h:iP p q){i:Nat}{x y:fB}(hx:p[i]?=F x)(hy:q[i]?=F y):x.fC=y.fC:=by
 have:=h.at i;rw[hx,hy] at this;simpa using this
theorem iP.ex (h:iP p q){i:Nat}{x:fB}(hx:p[i]?=F x):∃ y,q[i]?=F y/\x.fC=y.fC:=by
 have hl:=(Vh.1 hx).1;have hy:q[i]?=F (q[i]'(by rw[<-h.len];exact hl)):=Vq _;exact⟨_,hy,h.get hx hy⟩
theorem iP.symm {p q:D fB}(h:iP p q):iP q p:=Eq.symm h
theorem Pj (h:x.fC=y.fC):mH x=mH y:=by unfold mH;rw[h]
theorem iP.fv {p q:D fB}(h:iP p q):∀ i,zM p i=zM q i
 | 0=>rfl
 | i+1=>by
  cases hx:p[i]? with
  | none=>
   have hl:p.length<=i:=WN.1 hx;have h1:=iP.fv h i;unfold zM at h1 |-;rw[WE fh,WE (by rw[<-h.len];omega)];rw[WE hl,WE (by rw[<-h.len];omega)] at h1;exact h1
  | some x=>
   obtain⟨y,hy,hk⟩:=h.ex hx;rw[uP hx,uP hy,iP.fv h i,Pj hk]
theorem iP.ends (h:iP p q){k e:Nat}(he:gZ p k e):gZ q k e:=by
 obtain⟨x,hx,ho⟩:=he.op;obtain⟨y,hy,hk⟩:=h.ex hx;exact⟨⟨y,hy,by rw[<-hk];exact ho⟩,he.lt,by rw[<-h.len];exact he.len,by rw[<-h.fv,<-h.fv];exact he.eq,fun i a b=>by rw[<-h.fv,<-h.fv];exact he.up i a b⟩
theorem iP.ju {p q:D fB}(h:iP p q)(k:Int):jA p k=jA q k:=by
 rcases yy p k with h1 | ⟨a,e,rfl,h1,h2⟩
 ·rcases yy q k with g1 | ⟨a,e,rfl,g1,g2⟩
  ·rw[h1,g1]
  ·rw[(h.symm.ends g2).ju] at h1
   omega
 ·rw[h1,(h.ends h2).ju]
theorem iP.vD {p q:D fB}(h:iP p q):∀(n i:Nat)(e:Int),qN p n i e=qN q n i e
 | 0,_,_=>rfl
 | n+1,i,e=>by
  unfold qN;by_cases hi:(i:Int)<e
  ·rw[Vs hi,Vs hi]
   cases hx:p[i]? with
   | none=>
    have:q[i]?=I:=WN.2 (by rw[<-h.len];exact WN.1 hx);rw[this]
   | some x=>
    obtain⟨y,hy,hk⟩:=h.ex hx;rw[hy];simp only[hk,h.ju,iP.vD h n]
  ·rw[Vo hi,Vo hi]
theorem iP.AW (h:iP p q)(k:Int):kH p k=kH q k:=by
 unfold kH;rw[h.ju];split
 ·rfl
 ·cases hx:p[k.toNat]? with
  | none=>
   have:q[k.toNat]?=I:=WN.2 (by rw[<-h.len];exact WN.1 hx);rw[this]
  | some x=>
   obtain⟨y,hy,hk⟩:=h.ex hx;rw[hy];simp only[hk,h.vD,h.len]
theorem CF (p:D fB):iP p (p.map zW):=by
 unfold iP;rw[List.map_map];rfl
theorem Lf (h:p[i]?=F x):(p.map zW)[i]?=F (zW x):=by simp[h]
theorem vR (h:(p.map zW)[i]?=F y):∃ x,p[i]?=F x/\y=zW x:=by
 simp only[Xw,WV] at h;obtain⟨x,h1,h2⟩:=h;exact⟨x,h1,h2.symm⟩
theorem IR:∀(l:D fB)(i:Nat),lJ (l.map zW) i=lJ l i
 | [],_=>rfl
 | x::r,i=>by
  simp only[WD,lJ,IR r];rfl
theorem uO (p:D fB):zn (p.map zW)=zn p:=IR p 0
theorem G8:∀(l:D fB)(s:G)(i:Nat),qm (l.map zW) s i=qm l s i
 | [],_,_=>rfl
 | x::r,s,i=>by
  simp only[WD,qm,G8 r];rfl
theorem N6 (p:D fB)(s:G):lZ (p.map zW) s=lZ p s:=G8 p s 0
theorem Gw:∀(l:D fB)(n:Nat)(out:D G),qF (l.map zW) n out=qF l n out
 | _,0,_=>by cases ‹D fB› <;> rfl
 | [],_+1,_=>rfl
 | x::r,n+1,out=>by
  simp only[WD,qF,Gw r];rfl
theorem Na (p:D fB)(k:Int):zu (p.map zW) k=zu p k:=by
 unfold zu;rw[(CF p).symm.ju];split
 ·rfl
 ·cases hx:p[k.toNat]? with
  | none=>simp[hx]
  | some x=>
   rw[Lf hx];simp only[<-List.map_drop,Gw];rfl
structure lq (p:D fB):Prop where
 len:p.length<=60
 kind:∀(i:Nat) (x:fB),p[i]?=F x->gE x.fC 0 7=H
 expr:∀(i:Nat) (x:fB),p[i]?=F x->sF x.fC=H->∃ e:Ex,e.wf/\x.Expr=e.flat/\e.size<=20
 args:∀(i:Nat) (x:fB),p[i]?=F x->x.gD.length<=4
 name:∀(i:Nat) (x:fB),p[i]?=F x->x.fC=0->mN x.fJ=H
 ov:(zn p).length<=6
 body:∀(i:Nat) (x:fB),p[i]?=F x->x.fC=0->∃ e,gZ p i e/\(zu p i).length<=8/\
  ∀(j:Nat) (y:fB),i<j->j<e->p[j]?=F y->y.fC≠0/\zU p (zu p i) y.Expr=H/\(y.fC=4->∃ a,i<=a/\a<j/\jU p a j)/\(y.fC=1->ld (zu p i) y.fJ=H)
theorem un (h:qo x=H):gE x.fC 0 7=H/\yJ x=H/\rF x=H/\tx x=H:=by
 unfold qo at h;simpa only[Vt,Zp] using h
theorem Ps (h:rF x=H):x.gD.length<=4:=by
 unfold rF at h;split at h
 ·unfold BU at h
  simp only[Vt,VD] at h;exact h.1
 ·simp only[VD] at h
  omega
theorem RN {l r:D G} (h:ld l s=H):ld (l++r) s=H:=by
 unfold ld at h |-;rw[List.any_append,h];rfl
theorem Pq (out:D G)(x:fB):x.fC=1->ld (tt out x) x.fJ=H:=by
 intro h;unfold tt;cases hn:ld out x.fJ with
 | true=>rw[Vo gm];exact hn
 | false=>
  rw[Vs ⟨h,rfl⟩];unfold ld;simp
theorem NT {out:D G} (h:ld out s=H):ld (tt out x) s=H:=by
 unfold tt;split
 ·exact RN h
 ·exact h
theorem Gy:∀(l:D fB)(n:Nat)(out:D G)(s:G),ld out s=H->ld (qF l n out) s=H
 | _,0,out,s,h=>by cases ‹D fB› <;> exact h
 | [],_+1,out,s,h=>h
 | x::r,n+1,out,s,h=>Gy r n _ s (NT h)
theorem Hy:∀(l:D fB)(n i:Nat)(out:D G)(x:fB),l[i]?=F x->i<n->x.fC=1->ld (qF l n out) x.fJ=H
 | [],_,_,_,_,h,_,_=>by simp at h
 | y::r,0,_,_,_,_,h,_=>fh
 | y::r,n+1,0,out,x,h,_,hk=>by
  simp only[VU,VO] at h;subst h;exact Gy r n _ _ (Pq out y hk)
 | y::r,n+1,i+1,out,x,h,hi,hk=>Hy r n i _ x (by simpa using h) fh hk
theorem OS {e:Nat} (he:gZ p k e)(hx:p[k]?=F x)(h0:x.fC=0)(h1:k<j)(h2:j<e)(hy:p[j]?=F y)(hk:y.fC=1):ld (zu p k) y.fJ=H:=by
 unfold zu;rw[he.ju,Vo fh];simp only[Vy,hx,h0,Xe];exact Hy _ _ (j-k) _ y (by rw[Xi,show k+(j-k)=j from fh];exact hy) fh hk
theorem MH (h:pB p fM k i x=H):x.fC≠0/\(x.fC=4->rZ p k i=H)/\zM p (i+1)-zM p (k+1)<=4/\zU p fM x.Expr=H:=by
 unfold pB at h;simp only[Vt,Yr,WA,VD] at h;exact⟨h.1,fun h4=>by have:=h.2.1;rwa [Vs h4] at this,h.2.2.1,h.2.2.2⟩
theorem Ql (h:rZ p k i=H):∃ a,k<=a/\a<i/\jU p a i:=by
 unfold rZ at h;rw[Xs] at h;obtain⟨a,h1,h2⟩:=h;rw[List.mem_range'_1] at h1;simp only[VD] at h2;rcases Cv p a with h3 | ⟨j,h3,h4⟩
 ·omega
 ·have:j=i:=fh
  subst this;exact⟨a,h1.1,fh,h4⟩
theorem nK.c (h:nK p):lq p:=by
 refine⟨h.len,fun i x hx=>(un (h.line i x hx)).1,fun i x hx he=>?_,fun i x hx=>Ps (un (h.line i x hx)).2.2.1,fun i x hx h0=>?_,h.ov,fun i x hx h0=>?_⟩
 ·have h1:=(un (h.line i x hx)).2.2.2
  unfold tx at h1;rw[Vs he] at h1;obtain⟨e,g1,g2,g3⟩:=G6 h1;refine⟨e,g1,g2,?_⟩;rw[g2,e.ie] at g3;exact g3
 ·have h1:=(un (h.line i x hx)).2.1
  unfold yJ at h1;rwa [Vs (.inl h0)] at h1
 ·obtain⟨e,h1,h2⟩:=h.body i x hx h0
  refine⟨e,h1,?_,fun j y a b hy=>?_⟩
  ·unfold oy at h2
   simp only[Vt,VD] at h2;exact h2.1
  ·obtain⟨g1,g2,_,g4⟩:=MH (Em h2 a b hy)
   exact⟨g1,g4,fun h4=>Ql (g2 h4),fun h1'=>OS h1 hx h0 a b hy h1'⟩
theorem jU.Bd (h:iP p q){a j:Nat}(he:jU p a j):jU q a j:=by
 obtain⟨x,hx,h3⟩:=he.iff;obtain⟨y,hy,hk⟩:=h.ex hx;obtain⟨z,hz,h4⟩:=he.AW;obtain⟨u,hu,a1⟩:=h.ex hz;obtain⟨e,g1,g2⟩:=he.jD;refine⟨⟨y,hy,by rw[<-hk];exact h3⟩,he.lt,⟨u,hu,by rw[<-a1];exact h4⟩,⟨e,h.ends g1,g2⟩,fun i x' b c d o n=>?_⟩;obtain⟨v,hv,a0⟩:=h.symm.ex d;obtain⟨e',w1,w2⟩:=he.out i v b c hv (by rw[<-a0];exact o) (by rw[<-a0];exact n);exact⟨e',h.ends w1,w2⟩
theorem Nb (p:D fB)(fM:D G)(t:iq):mK (p.map zW) fM t=mK p fM t:=by
 unfold mK;rw[N6];split
 ·rfl
 ·split
  ·split
   ·rfl
   ·cases hx:p[(lZ p t.fJ).toNat]? with
    | none=>simp[hx]
    | some x=>rw[Lf hx];rfl
  ·rfl
theorem NA (h:t.fC=0):mK p fM t=H:=by
 unfold mK;rw[Vo fh,Vo fh]
theorem nK.fold {p:D fB}(h:nK p):lq (p.map zW):=by
 have hc:=h.c;have hk:=CF p
 have a0:∀(i:Nat) (x:fB),p[i]?=F x->sF x.fC=H->∃ e:Ex,e.wf/\x.Expr=e.flat/\(zW x).Expr=e.fold/\e.size<=20:=fun i x hx he=>by
  have h1:=(un (h.line i x hx)).2.2.2;unfold tx at h1;rw[Vs he] at h1;obtain⟨e,g1,g2,g3,g4⟩:=Cm h1;have gs:=g3;rw[g2,e.ie] at gs;refine⟨e,g1,g2,?_,gs⟩;unfold zW;have:0<x.Expr.length:=by rw[g2,e.ie];exact e.size_pos
  simp only[Vs this];exact g4
 refine⟨by simpa using h.len,fun i y hy=>?_,fun i y hy he=>?_,fun i y hy=>?_,fun i y hy h0=>?_,by rw[uO];exact h.ov,fun i y hy h0=>?_⟩
 ·obtain⟨x,hx,rfl⟩:=vR hy
  exact hc.kind i x hx
 ·obtain⟨x,hx,rfl⟩:=vR hy
  obtain⟨e,g1,g2,g3,g4⟩:=a0 i x hx he;obtain⟨e',w1,w2,w3⟩:=e.jf g1;exact⟨e',w1,by rw[g3,w2],fh⟩
 ·obtain⟨x,hx,rfl⟩:=vR hy
  exact hc.args i x hx
 ·obtain⟨x,hx,rfl⟩:=vR hy
  exact hc.name i x hx h0
 ·obtain⟨x,hx,rfl⟩:=vR hy
  obtain⟨e,h1,h2,h3⟩:=hc.body i x hx h0;rw[Na];refine⟨e,hk.ends h1,h2,fun j z a b hz=>?_⟩;obtain⟨u,hu,rfl⟩:=vR hz;obtain⟨g1,g2,g3,g4⟩:=h3 j u a b hu;refine⟨g1,?_,fun h4=>?_,g4⟩
  ·unfold zU at g2 |-
   rw[Xm] at g2 |-;intro t ht;rw[Nb];by_cases he:sF u.fC=H
   ·obtain⟨e,w1,w2,w3,_⟩:=a0 j u hu he
    rw[w3] at ht;rcases e.lz t ht with h5 | h5
    ·exact g2 t (by rw[w2];exact h5)
    ·exact NA h5
   ·have h1:=(un (h.line j u hu)).2.2.2
    unfold tx at h1;rw[Vo he] at h1;simp only[VD] at h1;unfold zW at ht;simp only[h1,Yp,Yn] at ht;exact g2 t ht
  ·obtain⟨a',w1,w2,w3⟩:=g3 h4
   exact⟨a',w1,w2,w3.Bd hk⟩
structure gw where
 p:D fB
 inl:Int
 gT:Bool
 fO:Int
 args:Int
structure fV where
 f:Int
 ft:D Int
 fM:D G
 first:Int
 iu:Bool
 fI:D Int
structure gA where
 fx:D fX
 fv:Int
 most:Int
 start:Bool
def gA.jH (m:gA)(l:D fX):gA:=⟨l,m.fv,m.most,m.start⟩
def gA.gR (m:gA)(d:Int):gA:=⟨m.fx,d,m.most,m.start⟩
def gA.j7 (m:gA)(d:Int):gA:=⟨m.fx,m.fv,d,m.start⟩
def gA.begun (m:gA):gA:=⟨m.fx,m.fv,m.most,H⟩
def mP (E:gw)(m:gA)(code arg line:Int)(ft:D Int):fX:=
 ⟨⟨code,arg⟩,line,m.start,ft,if (E.gT && decide (0<m.fx.length))=H then 0 else m.fv,E.gT && decide (0<m.fx.length)⟩
def zC (E:gw)(m:gA)(code arg line:Int)(ft:D Int):gA:=⟨m.fx++[mP E m code arg line ft],m.fv,m.most,M⟩
def mE (E:gw)(fv:Int)(s:fV)(i:Int)(store:Bool):Int × Int:=
 (if E.gT=H then (if store=H then 2 else 1) else (if store=H then 4 else 3),
  if E.gT=H then
   (if s.iu=H then (if i<E.args then 1+(E.args-i) else -1-(i-E.args)) else -1-(s.first+i))
  else (if s.iu=H then (if i<E.args then fv+(E.args-i) else fv-1-(i-E.args)) else fv-1-(s.first+i)))
def BX (E:gw)(m:gA)(s:fV)(i line:Int):gA:=
 (zC E m (mE E m.fv s i M).1 (mE E m.fv s i M).2 line s.ft).gR (m.fv+1)
def ni (E:gw)(m:gA)(s:fV)(i line:Int)(ft:D Int):gA:=
 (zC E m (mE E m.fv s i H).1 (mE E m.fv s i H).2 line ft).gR (m.fv-1)
def mx (E:gw)(m:gA)(v line:Int)(ft:D Int):gA:=
 (zC E m 0 v line ft).gR (m.fv+1)
def oH (E:gw)(fs:D Int)(m:gA)(g:Int):Bool:=
 decide ((fs.length:Int)-1<E.inl) && (decide (jA E.p g-g<=9) && (decide ((m.fx.length:Int)<200) && !(fs.any fun f=>decide (f=g))))
def so:D G->G->Nat->Int
 | [],_,_=>-1
 | y::r,s,i=>if y=s then (i:Int) else so r s (i+1)
def rq (p:D fB)(g:Int):Int:=((zn p).filter fun k=>decide (k<g)).length
def pI (E:gw)(rep:Int->gA->gA)(fs:D Int)(s:fV)(k:Int)(t:iq)(m:gA):gA:=
 if t.fC=0 then mx E m t.iY k s.ft
 else if t.fC=1 then BX E m s (so s.fM t.fJ 0) k
 else if t.fC=7 then
  if oH E fs m (lZ E.p t.fJ)=H then rep (lZ E.p t.fJ) m
  else (zC E m 12 (rq E.p (lZ E.p t.fJ)) k s.ft).gR (m.fv-t.iY+1)
 else (zC E m (5+t.fC-2) 0 k s.ft).gR (m.fv-1)
mutual
def Ex.comp (E:gw)(rep:Int->gA->gA)(fs:D Int)(s:fV)(k:Int):Ex->gA->gA
 | .node t ks,m=>pI E rep fs s k t (ks.comp E rep fs s k m)
def ig.comp (E:gw)(rep:Int->gA->gA)(fs:D Int)(s:fV)(k:Int):ig->gA->gA
 | .nil,m=>m
 | .cons e r,m=>r.comp E rep fs s k (e.comp E rep fs s k m)
end
def mO (fx:D fX)(j:Nat)(v:Int):D fX:=match fx[j]? with
 | none=>fx
 | some x=>fx.set j { x with Op:=⟨x.Op.Code,v⟩ }
def oJ (fx:D fX)(js:D Int)(v:Int):D fX:=js.foldl (fun l j=>mO l j.toNat v) fx
def rB (E:gw)(x:fV)(k:Int)(ft:D Int):Nat->gA->gA
 | 0,m=>m
 | n+1,m=>rB E x k ft n (ni E m x n k ft)
def sN (E:gw)(x:fV)(k:Int)(ft:D Int):Nat->Nat->gA->gA
 | 0,_,m=>m
 | n+1,i,m=>sN E x k ft n (i+1) (ni E (mx E m 0 k ft) x i k ft)
def zD (p:D fB)(g:Int):D G:=match p[g.toNat]? with
 | none=>[]
 | some x=>x.gD
def pJ (E:gw)(s:fV):Int:=if s.iu=H then s.fM.length-E.args else s.first+s.fM.length
def kA (E:gw)(g k:Int)(s:fV):fV:=⟨g,s.ft++[k],zu E.p g,pJ E s,M,[]⟩
def pX (E:gw)(g k:Int)(s:fV)(m:gA):gA:=
 let x:=kA E g k s
 let m1:=m.j7 (max m.most (pJ E s+x.fM.length))
 let m2:=rB E x k s.ft (zD E.p g).length m1
 let m3:=sN E x k s.ft (x.fM.length-(zD E.p g).length) (zD E.p g).length m2
 if m3.start=H then zC E m3 15 0 k s.ft else m3
def zL (E:gw)(lines:D Int->fV->gA->gA × D Int)(fs:D Int)(k:Int)(s:fV)(g:Int)(m:gA):gA:=
 let m4:=pX E g k s m
 let r:=lines (fs++[g]) (kA E g k s) m4
 (r.1.jH (oJ r.1.fx r.2 r.1.fx.length)).gR (m4.fv+1)
structure jC where
 m:gA
 fI:D Int
 gj:D Int
 fS:D (Int × Int)
def n9 (fx:D fX)(fS:D (Int × Int))(tgt v:Int):D fX:=fS.foldl (fun l e=>if e.1=tgt then mO l e.2.toNat v else l) fx
def jC.wm (L:jC)(m:gA):jC:=⟨m,L.fI,L.gj,L.fS⟩
def kp (m:gA)(es:D (Int × Int))(tgt:Int):gA:=m.jH (n9 m.fx es tgt m.fx.length)
def lH (E:gw)(s:fV)(k:Int)(last:Bool)(L:jC):jC:=
 if s.iu=H then
  (if E.gT=H then L.wm ((zC E L.m 14 E.args k s.ft).gR (L.m.fv-1))
   else L.wm ((zC E L.m 16 (E.args+16*E.fO) k s.ft).gR (L.m.fv-1)))
 else if last=H then L.wm (L.m.gR (L.m.fv-1))
 else ⟨(zC E L.m 10 0 k s.ft).gR (L.m.fv-1),L.fI++[(L.m.fx.length:Int)],L.gj,L.fS⟩
def mZ (p:D fB)(k:Int)(item:Int):Nat->Nat->D (Int × Int)
 | 0,_=>[]
 | n+1,i=>if kH p i=k then (jA p i+1,item)::mZ p k item n (i+1) else mZ p k item n (i+1)
def pE (E:gw)(k:Int)(ft:D Int)(gj:D Int):Nat->Nat->gA->gA
 | 0,_,m=>m
 | n+1,i,m=>pE E k ft gj n (i+1) (if jA E.p i=k/\(E.p[i]?.map fB.fC)=F 5 then zC E m 10 (gj.getD i 0) k ft else m)
def AQ (E:gw)(rep:Int->gA->gA)(fs:D Int)(s:fV)(k:Int)(xs:D iq):Nat->Nat->Nat->gA->gA × Nat
 | 0,_,a,m=>(m,a)
 | _+1,0,a,m=>(m,a)
 | f+1,n+1,a,m=>match xs[a]? with
  | none=>(m,a)
  | some t=>AQ E rep fs s k xs f n (AQ E rep fs s k xs f (j9 t).toNat (a+1) m).2 (pI E rep fs s k t (AQ E rep fs s k xs f (j9 t).toNat (a+1) m).1)
theorem EL {E:gw}{rep:Int->gA->gA}{fs:D Int}{s:fV}{k:Int}{xs:D iq}:∀(f:Nat)(ks:ig)(a:Nat)(r:D iq)(m:gA),ks.wf->xs.drop a=ks.flat++r->ks.size<f->AQ E rep fs s k xs f ks.len a m=(ks.comp E rep fs s k m,a+ks.size)
 | 0,_,_,_,_,_,_,hf=>fh
 | f+1,.nil,a,r,m,_,_,_=>rfl
 | f+1,.cons (.node t ks) q,a,r,m,h,hx,hf=>by
  simp only[ig.flat,Ex.flat,Xl,VM] at hx;simp only[ig.size,Ex.size] at hf;obtain⟨h1,h2⟩:=Aw hx;simp only[ig.len,AQ,h1];have e1:=EL (E:=E) (rep:=rep) (fs:=fs) (s:=s) (k:=k) f ks (a+1) _ m h.1.2.2 h2 fh;rw[h.1.2.1,Vy,e1]
  have h3:xs.drop (a+1+ks.size)=q.flat++r:=by
   rw[<-Xx,h2,<-ks.ie,Yg]
  rw[EL f q _ r _ h.2 h3 fh];simp only[ig.comp,Ex.comp,ig.size,Ex.size];congr 1;omega
def tG (E:gw)(rep:Int->gA->gA)(fs:D Int)(s:fV)(k:Int)(xs:D iq)(m:gA):gA:=(AQ E rep fs s k xs (xs.length+1) 1 0 m).1
theorem BK {E:gw} {rep:Int->gA->gA} {s:fV} {k:Int} {m:gA} {e:Ex} (h:e.wf):tG E rep fs s k e.flat m=e.comp E rep fs s k m:=by
 unfold tG;have:=EL (E:=E) (rep:=rep) (fs:=fs) (s:=s) (k:=k) (xs:=e.flat) (e.flat.length+1) (.cons e .nil) 0 [] m ⟨h,trivial⟩ (by simp[ig.flat]) (by simp only[ig.size,e.ie];omega);simp only[ig.len,VJ] at this;rw[this];simp[ig.comp]
def kV (E:gw)(rep:Int->gA->gA)(fs:D Int)(s:fV)(e k:Nat)(x:fB)(L:jC):jC:=
 let m0:=kp L.m L.fS k
 if x.fC=4 then
  let ex:=L.fS++mZ E.p k L.m.fx.length (k-s.f.toNat) s.f.toNat
  ⟨kp (zC E m0 10 0 k s.ft) ex (-(k:Int)),L.fI,L.gj,ex⟩
 else if x.fC=7 then
  if k=e then lH E s k H (L.wm (mx E m0 0 k s.ft))
  else L.wm (pE E k s.ft L.gj (k-(s.f.toNat+1)) (s.f.toNat+1) m0)
 else
  let m1:=tG E rep fs s k x.Expr m0.begun
  let L1:jC:=⟨m1,L.fI,L.gj.set k L.m.fx.length,L.fS⟩
  if x.fC=1 then L1.wm (ni E m1 s (so s.fM x.fJ 0) k s.ft)
  else if x.fC=2 then L1.wm ((zC E m1 17 0 k s.ft).gR (m1.fv-1))
  else if x.fC=6 then lH E s k M L1
  else ⟨(zC E m1 11 0 k s.ft).gR (m1.fv-1),L.fI,L.gj.set k L.m.fx.length,L.fS++[(if x.fC=3/\0<=kH E.p k then -(kH E.p k) else jA E.p k+1,(m1.fx.length:Int))]⟩
def oL (E:gw)(rep:Int->Int->gA->gA)(fs:D Int)(s:fV)(e:Nat):D fB->Nat->Nat->jC->jC
 | _,0,_,L=>L
 | [],_+1,_,L=>L
 | x::r,n+1,k,L=>oL E rep fs s e r n (k+1) (kV E (rep k) fs s e k x L)
def vm (E:gw)(rep:D Int->fV->Int->Int->gA->gA)(fs:D Int)(s:fV)(m:gA):gA × D Int:=
 let e:=(jA E.p s.f).toNat
 let L:=oL E (rep fs s) fs s e (E.p.drop (s.f.toNat+1)) (e-s.f.toNat) (s.f.toNat+1) ⟨m,s.fI,VP E.p.length 0,[]⟩
 (L.m,L.fI)
def zX (E:gw):Nat->D Int->fV->gA->gA × D Int
 | 0=>fun _ _ m=>(m,[])
 | d+1=>vm E fun fs s k g m=>zL E (zX E d) fs k s g m
def kZ (b:gP)(f:Nat):Bool:=decide (b.gW / 2 ^ f % 2=1)
def lI (p:D fB)(b:gP)(f:Nat)(fO:Int):D fX × Int:=
 let line:=((zn p)[f]?).getD 0
 let args:=(zD p line).length
 let s:fV:=⟨line,[],zu p line,0,H,[]⟩
 let E:gw:=⟨p,b.gN,kZ b f,fO,args⟩
 let m0:gA:=⟨[],0,(zu p line).length-args,M⟩
 let m1:=(zC E m0 (if kZ b f=H then 13 else 15) fO line []).gR fO
 let r:=zX E 4 [line] s m1
 (r.1.fx,r.1.most)
def kC (b:gP):Bool:=gE b.gW 0 63 && gE b.gN 0 3
def zx (p:D fB)(b:gP)(f:Nat):D fX:=
 let q:=if b.iO=H then qE p else p
 (lI q b f (lI q b f 0).2).1
def lC (p:D fB)(k:Int):Int:=((p[k.toNat]?).map fB.fC).getD (-1)
def lD (d:Nat):Int:=900-30*(d:Int)
def jJ (d:Nat):Nat:=250*d
structure qv (p:D fB)(n j:Nat)(x:fX):Prop where
 code:0<=x.Op.Code/\x.Op.Code<=17
 lit:x.Op.Code=0->0<=x.Op.iz/\x.Op.iz<=999
 var:1<=x.Op.Code->x.Op.Code<=4->-2000<=x.Op.iz/\x.Op.iz<=2000
 op:(5<=x.Op.Code/\x.Op.Code<=9)∨x.Op.Code=17->x.Op.iz=0
 jump:x.Op.Code=10∨x.Op.Code=11->0<=x.Op.iz/\x.Op.iz<=n
 jj:12<=x.Op.Code->x.Op.Code<=15->0<=x.Op.iz/\x.Op.iz<=100
 ret:x.Op.Code=16->0<=x.Op.iz/\x.Op.iz<=2000
 line:0<=x.fZ/\x.fZ<p.length
 ft:x.fP.length<=3/\∀ c∈x.fP,0<=c/\c<p.length
 fv:0<=x.fT/\x.fT<=1000/\(x.fU=H->x.fT=0)
 first:j=0↔x.Op.Code=13∨(x.Op.Code=15/\lC p x.fZ=0)
def jr (p:D fB)(l:D fX):Prop:=∀(j:Nat)(x:fX),l[j]?=F x->qv p l.length j x
theorem qv.up {x:fX} (h:qv p n j x)(hn:n<=m):qv p m j x:=
 ⟨h.code,h.lit,h.var,h.op,fun hc=>by have:=h.jump hc;omega,h.jj,h.ret,h.line,h.ft,h.fv,h.first⟩
theorem jr.snoc {x:fX} (h:jr p l)(hx:qv p (l.length+1) l.length x):jr p (l++[x]):=by
 intro j y hy;rw[Vk];by_cases hj:j<l.length
 ·rw[Wh hj] at hy
  exact(h j y hy).up gm
 ·have a0:=(Vh.1 hy).1
  simp only[Vk,VC,VZ] at a0;have:j=l.length:=fh;subst this;rw[VX (Vz _),Ws] at hy;simp only[VU,VO] at hy;subst hy;exact hx
theorem yv (l:D fX)(j:Nat)(v:Int):(mO l j v).length=l.length:=by
 unfold mO;cases l[j]? with
 | none=>rfl
 | some x=>simp
theorem I8 {y:fX} (h:(mO l j v)[i]?=F y):(i≠j/\l[i]?=F y)∨(i=j/\∃ x,l[j]?=F x/\y = { x with Op:=⟨x.Op.Code,v⟩ }):=by
 unfold mO at h;cases hx:l[j]? with
 | none=>
  rw[hx] at h;refine .inl ⟨fun hh=>?_,h⟩;subst hh;simp only at h;rw[hx] at h;cases h
 | some x=>
  rw[hx] at h;simp only at h;rw[Zd] at h;by_cases hij:j=i
  ·subst hij
   have hl:=(Vh.1 hx).1;simp only[Xe,hl,Xe,VO] at h;exact .inr ⟨rfl,x,rfl,h.symm⟩
  ·rw[Vo hij] at h
   exact .inl ⟨fun hh=>hij hh.symm,h⟩
def iW (l:D fX)(j:Int):Prop:=∃(i:Nat)(x:fX),j=(i:Int)/\l[i]?=F x/\(x.Op.Code=10∨x.Op.Code=11)
theorem JI {j:Int} (h:jr p l)(hj:iW l j)(h0:0<=v)(hv:v<=l.length):jr p (mO l j.toNat v):=by
 obtain⟨a,x,rfl,hx,hc⟩:=hj;rw[Vy];intro i y hy;rw[yv];rcases I8 hy with⟨_,h2⟩ | ⟨rfl,x',a0,rfl⟩
 ·exact h i y h2
 ·rw[hx] at a0
  injection a0 with a0
  subst a0;have hi:=h i x hx;exact⟨hi.code,fun h0=>by simp only at h0;omega,fun h1 h2=>by simp only at h1 h2;omega,fun h1=>by simp only at h1;omega,fun _=>⟨h0,hv⟩,fun h1 h2=>by simp only at h1 h2;omega,fun h1=>by simp only at h1;omega,hi.line,hi.ft,hi.fv,hi.first⟩
theorem El {j:Int} (h:iW l j):iW (mO l i v) j:=by
 obtain⟨a,x,rfl,hx,hc⟩:=h;unfold mO;cases hy:l[i]? with
 | none=>exact⟨a,x,rfl,hx,hc⟩
 | some y=>
  simp only;by_cases hai:i=a
  ·subst hai
   rw[hx] at hy;injection hy with hy
   subst hy;exact⟨i,{ x with Op:=⟨x.Op.Code,v⟩ },rfl,by rw[WU (Vh.1 hx).1],hc⟩
  ·exact⟨a,x,rfl,by rw[Wy hai];exact hx,hc⟩
theorem iW.l5 {r:D fX} {j:Int} (h:iW l j):iW (l++r) j:=by
 obtain⟨a,x,rfl,hx,hc⟩:=h;exact⟨a,x,rfl,by rw[Wh (Vh.1 hx).1];exact hx,hc⟩
structure jh (l l':D fX):Prop where
 len:l.length<=l'.length
 jump:∀ j,iW l j->iW l' j
theorem jh.refl (l:D fX):jh l l:=⟨Vz _,fun _ h=>h⟩
theorem jh.trans {a b c:D fX} (h:jh a b)(k:jh b c):jh a c:=⟨VL h.len k.len,fun j hj=>k.jump j (h.jump j hj)⟩
theorem jh.l5 (l r:D fX):jh l (l++r):=⟨gm,fun _ h=>h.l5⟩
theorem jh.set (l:D fX)(j:Nat)(v:Int):jh l (mO l j v):=⟨by rw[yv];exact Vz _,fun _ h=>El h⟩
theorem Bk:∀(js:D Int)(l:D fX)(v:Int),jh l (oJ l js v)/\(oJ l js v).length=l.length
 | [],l,v=>⟨jh.refl _,rfl⟩
 | j::js,l,v=>by
  obtain⟨h1,h2⟩:=Bk js (mO l j.toNat v) v;exact⟨(jh.set _ _ _).trans h1,by rw[<-yv l j.toNat v];exact h2⟩
theorem I9 {p:D fB}:∀(js:D Int)(l:D fX)(v:Int),jr p l->(∀ j∈js,iW l j)->0<=v->v<=l.length->jr p (oJ l js v)
 | [],l,v,h,_,_,_=>h
 | j::js,l,v,h,hj,h0,hv=>by
  exact I9 js (mO l j.toNat v) v (JI h (hj j (.head _)) h0 hv) (fun a ha=>El (hj a (.tail _ ha))) h0 (by rw[yv];exact hv)
theorem sw:∀(es:D (Int × Int))(l:D fX)(tgt v:Int),jh l (n9 l es tgt v)/\(n9 l es tgt v).length=l.length
 | [],l,tgt,v=>⟨jh.refl _,rfl⟩
 | e::es,l,tgt,v=>by
  unfold n9;simp only[XC];by_cases he:e.1=tgt
  ·rw[Vs he]
   obtain⟨h1,h2⟩:=sw es (mO l e.2.toNat v) tgt v;exact⟨(jh.set _ _ _).trans h1,by rw[<-yv l e.2.toNat v];exact h2⟩
  ·rw[Vo he]
   exact sw es l tgt v
theorem Fe {p:D fB}:∀(es:D (Int × Int))(l:D fX)(tgt v:Int),jr p l->(∀ e∈es,iW l e.2)->0<=v->v<=l.length->jr p (n9 l es tgt v)
 | [],l,tgt,v,h,_,_,_=>h
 | e::es,l,tgt,v,h,hj,h0,hv=>by
  unfold n9;simp only[XC];by_cases he:e.1=tgt
  ·rw[Vs he]
   exact Fe es (mO l e.2.toNat v) tgt v (JI h (hj e (.head _)) h0 hv) (fun a ha=>El (hj a (.tail _ ha))) h0 (by rw[yv];exact hv)
  ·rw[Vo he]
   exact Fe es l tgt v h (fun a ha=>hj a (.tail _ ha)) h0 hv
structure iH (E:gw):Prop where
 pc:lq E.p
 inl:0<=E.inl/\E.inl<=3
 fO:0<=E.fO/\E.fO<=100
 args:0<=E.args/\E.args<=4
structure iS (E:gw)(s:fV):Prop where
 rP:∃(i e:Nat) (x:fB),s.f=(i:Int)/\E.p[i]?=F x/\x.fC=0/\gZ E.p i e/\(∀(j:Nat) (y:fB),i<j->j<e->E.p[j]?=F y->y.fC≠0/\zU E.p (zu E.p i) y.Expr=H/\(y.fC=4->∃ a,i<=a/\a<j/\jU E.p a j)/\(y.fC=1->ld (zu E.p i) y.fJ=H))
 fM:s.fM=zu E.p s.f/\s.fM.length<=8
 first:0<=s.first/\s.first<=8*(s.ft.length:Int)
 ft:s.ft.length<=3/\∀ c∈s.ft,0<=c/\c<E.p.length
 iu:s.iu=H->s.ft = []/\s.first=0/\E.args<=s.fM.length
theorem RJ {E:gw} {m:gA} {arg:Int} (hE:jr E.p m.fx)(hd:0<=m.fv/\m.fv<=1000)(h:∀(x:fX),x.Op=⟨code,arg⟩->x.fZ=line->x.fP=ft->(0<=x.fT/\x.fT<=1000/\(x.fU=H->x.fT=0))->qv E.p (m.fx.length+1) m.fx.length x):jr E.p (zC E m code arg line ft).fx:=by
 refine hE.snoc (h _ rfl rfl rfl ?_);unfold mP;simp only;cases hb:(E.gT && decide (0<m.fx.length)) with
 | true=>exact⟨Xv _,gm,fun _=>rfl⟩
 | false=>exact⟨hd.1,hd.2,fun h=>by cases h⟩
theorem yx (E:gw)(m:gA)(code arg line:Int)(ft:D Int):(zC E m code arg line ft).fx.length=m.fx.length+1:=by simp[zC]
theorem Uc {x:fX} {arg:Int} (hop:x.Op=⟨code,arg⟩)(hl:x.fZ=line)(hc:x.fP=ft)(hd:0<=x.fT/\x.fT<=1000/\(x.fU=H->x.fT=0))(hj:0<j)
  (hline:0<=line/\line<p.length) (hchain:ft.length<=3/\∀ c∈ft,0<=c/\c<p.length)
  (h:(code=0/\0<=arg/\arg<=999)∨(1<=code/\code<=4/\-2000<=arg/\arg<=2000)∨(((5<=code/\code<=9)∨code=17)/\arg=0)∨((code=10∨code=11)/\0<=arg/\arg<=n)∨((code=12∨code=14∨(code=15/\lC p line≠0))/\0<=arg/\arg<=100)∨(code=16/\0<=arg/\arg<=2000)):qv p n j x:=by
 have h1:x.Op.Code=code:=by rw[hop]
 have h2:x.Op.iz=arg:=by rw[hop]
 refine⟨by rw[h1];omega,fun h0=>by rw[h1] at h0;rw[h2];omega,fun a b=>by rw[h1] at a b;rw[h2];omega,fun a=>by rw[h1] at a;rw[h2];omega,fun a=>by rw[h1] at a;rw[h2];omega,fun a b=>by rw[h1] at a b;rw[h2];omega,fun a=>by rw[h1] at a;rw[h2];omega,by rw[hl];exact hline,by rw[hc];exact hchain,hd,?_⟩;rw[h1,hl];constructor
 ·intro h0;omega
 ·rintro(h0 | ⟨h0,h3⟩)
  ·exfalso;omega
  ·exfalso
   rcases h with h | h | h | h | h | h
   ·omega
   ·omega
   ·omega
   ·omega
   ·obtain⟨h4 | h4 | ⟨_,h4⟩,_⟩:=h
    ·omega
    ·omega
    ·exact h4 h3
   ·omega
theorem AG:∀(l:D G)(s:G)(i:Nat),ld l s=H->(i:Int)<=so l s i/\so l s i<i+l.length
 | [],s,i,h=>by simp[ld] at h
 | y::r,s,i,h=>by
  unfold so;by_cases hy:y=s
  ·rw[Vs hy]
   simp only[VC];omega
  ·rw[Vo hy]
   have h2:ld r s=H:=by
    unfold ld at h |-;rw[List.any_cons] at h;simpa[hy] using h
   have:=AG r s (i+1) h2;simp only[VC];omega
theorem Jz {E:gw} {d:Int} {s:fV} {i:Int} {st:Bool} (hE:iH E)(hs:iS E s)(hd:0<=d/\d<=1000)(hi:0<=i/\i<8):1<=(mE E d s i st).1/\(mE E d s i st).1<=4/\-2000<=(mE E d s i st).2/\(mE E d s i st).2<=2000:=by
 have h1:=hE.args;have h2:=hs.first;have h3:=hs.ft.1;unfold mE;simp only;refine⟨?_,?_,?_,?_⟩
 ·split <;> split <;> omega
 ·split <;> split <;> omega
 ·split <;> split <;> (try split) <;> omega
 ·split <;> split <;> (try split) <;> omega
structure jt (E:gw)(m:gA):Prop where
 iM:jr E.p m.fx
 pos:0<m.fx.length
structure hU (E:gw)(m m':gA)(dd:Int)(n0 w:Nat):Prop where
 ok:jt E m'
 keeps:jh m.fx m'.fx
 fv:m'.fv=m.fv+dd
 cnt:m'.fx.length<=max m.fx.length n0+w
 most:m.most<=m'.most/\m'.most<=max m.most 40
theorem hU.refl {E:gw}{m:gA}{n0:Nat}(h:jt E m):hU E m m 0 n0 0:=⟨h,jh.refl _,fh,fh,fh⟩
theorem hU.trans {E:gw}{a b c:gA}{d1 d2:Int}{n0 w1 w2:Nat}(h:hU E a b d1 n0 w1)(k:hU E b c d2 n0 w2):hU E a c (d1+d2) n0 (w1+w2):=
 ⟨k.ok,h.keeps.trans k.keeps,by rw[k.fv,h.fv];omega,by have:=h.cnt;have:=k.cnt;omega,by have:=h.most;have:=k.most;omega⟩
theorem hU.more {E:gw} {a b:gA} {d:Int} {n1 w1 w2:Nat} (h:hU E a b d n0 w1)(hw:w1<=w2)(hn:n0<=n1):hU E a b d n1 w2:=⟨h.ok,h.keeps,h.fv,by have:=h.cnt;omega,h.most⟩
theorem hU.jN {E:gw} {a b:gA} {d d':Int} {w:Nat} (h:hU E a b d n0 w)(hd:d=d'):hU E a b d' n0 w:=by subst hd;exact h
theorem rm {E:gw} {m:gA} {arg dd:Int} (hm:jt E m)(hd:0<=m.fv/\m.fv<=1000)(hline:0<=line/\line<E.p.length)(hchain:ft.length<=3/\∀ c∈ft,0<=c/\c<E.p.length)
  (h:(code=0/\0<=arg/\arg<=999)∨(1<=code/\code<=4/\-2000<=arg/\arg<=2000)∨(((5<=code/\code<=9)∨code=17)/\arg=0)∨((code=10∨code=11)/\0<=arg/\arg<=m.fx.length+1)∨((code=12∨code=14∨(code=15/\lC E.p line≠0))/\0<=arg/\arg<=100)∨(code=16/\0<=arg/\arg<=2000)) :
  hU E m ((zC E m code arg line ft).gR (m.fv+dd)) dd n0 1:=by
 refine⟨⟨?_,by simp[zC,gA.gR]⟩,jh.l5 _ _,rfl,by have:=yx E m code arg line ft;simp only[gA.gR,this];omega,by simp only[zC,gA.gR];omega⟩;exact RJ hm.iM hd (fun x h1 h2 h3 h4=>Uc h1 h2 h3 h4 hm.pos hline hchain h)
theorem CT (E:gw)(m:gA)(code arg line:Int)(ft:D Int)(h:code=10∨code=11):iW (zC E m code arg line ft).fx (m.fx.length:Int):=
 ⟨m.fx.length,_,rfl,by unfold zC;simp only;rw[VX (Vz _),Ws];rfl,h⟩
def vv (E:gw)(rep:Int->gA->gA)(fs:D Int)(d:Nat):Prop:=∀(g:Int)(m:gA),jt E m->m.fx.length<200->(∃ i:Nat,g=(i:Int)/\∃ x,E.p[i]?=F x/\x.fC=0)->oH E fs m g=H->
 ((zD E.p g).length:Int)<=m.fv->m.fv<=lD d->hU E m (rep g m) (1-((zD E.p g).length:Int)) (200+jJ d) 0
theorem Ov (p:D fB)(h:(zn p).length<=6)(g:Int):0<=rq p g/\rq p g<=6:=by
 unfold rq;have:=YR (fun k=>decide (k<g)) (zn p);omega
theorem E2 (h:mR t=H):0<=t.fC/\t.fC<=7:=by
 unfold mR at h;split at h
 ·omega
 ·split at h
  ·omega
  ·split at h
   ·omega
   ·rw[Vt,zr] at h
    omega
theorem QL (h:mR t=H)(h0:t.fC=0):0<=t.iY/\t.iY<=999:=by
 unfold mR at h;rw[Vs h0,Vt,zr] at h;exact h.1
theorem IZ (h:mR t=H)(h0:t.fC=7):0<=t.iY/\t.iY<=4:=by
 unfold mR at h;rw[Vo fh,Vo fh,Vs h0,Vt,zr] at h;exact h.1
theorem Cq (h:mK p fM t=H)(h7:t.fC=7):∃(i:Nat)(x:fB),lZ p t.fJ=(i:Int)/\p[i]?=F x/\x.fC=0/\(x.gD.length:Int)=t.iY:=by
 unfold mK at h;rw[Vo fh,Vs h7] at h;rcases Od p t.fJ with h1 | ⟨i,x,h1,h2,h3,_⟩
 ·rw[h1] at h;simp at h
 ·rw[h1,Vo fh,Vy,h2] at h
  simp only[VD] at h;exact⟨i,x,h1,h2,h3,h⟩
theorem uo (h:p[i]?=F x):zD p (i:Int)=x.gD:=by
 unfold zD;rw[Vy,h]
theorem Bs (h:mR t=H)(h7:t.fC=7):j9 t=t.iY:=by unfold j9;rw[Vs h,Vs h7]
theorem Cz (h:mR t=H)(h0:t.fC=0∨t.fC=1):j9 t=0:=by unfold j9;rw[Vs h,Vo fh,Vs h0]
theorem Dh (h:mR t=H)(h0:t.fC≠0)(h1:t.fC≠1)(h7:t.fC≠7):j9 t=2:=by unfold j9;rw[Vs h,Vo h7,Vo fh]
theorem vH {E:gw} {m:gA} {g:Int} (h:oH E fs m g=H):(fs.length:Int)-1<E.inl/\jA E.p g-g<=9/\m.fx.length<200/\fs.any (fun f=>decide (f=g))=M:=by
 unfold oH at h;simp only[Vt,VD,Yr] at h;exact⟨h.1,h.2.1,fh,h.2.2.2⟩
theorem TB {E:gw} {rep:Int->gA->gA} {s:fV} {k:Int} {m:gA} (hE:iH E)(hs:iS E s)(hr:vv E rep fs d)(hm:jt E m)(ht:mR t=H)(hn:mK E.p s.fM t=H)(hk:0<=k/\k<E.p.length)
  (h0:j9 t<=m.fv) (h1:m.fv<=lD d):hU E m (pI E rep fs s k t m) (1-j9 t) (200+jJ d) 1:=by
 have ha:=Dg ht;have a1:lD d<=900:=by unfold lD;omega
 unfold pI;by_cases k0:t.fC=0
 ·rw[Vs k0,Cz ht (.inl k0)]
  exact rm hm ⟨fh,fh⟩ hk hs.ft (.inl ⟨rfl,QL ht k0⟩)
 ·rw[Vo k0]
  by_cases k1:t.fC=1
  ·rw[Vs k1,Cz ht (.inr k1)]
   have a2:ld s.fM t.fJ=H:=by
    unfold mK at hn;rwa [Vs k1] at hn
   have hx:=AG s.fM t.fJ 0 a2;have hl:=hs.fM.2;have hp:=Jz (st:=M) (i:=so s.fM t.fJ 0) hE hs (d:=m.fv) ⟨fh,fh⟩ ⟨fh,fh⟩;exact rm hm ⟨fh,fh⟩ hk hs.ft (.inr (.inl hp))
  ·rw[Vo k1]
   by_cases k7:t.fC=7
   ·rw[Vs k7,Bs ht k7]
    rw[Bs ht k7] at h0;obtain⟨i,x,g1,g2,g3,g4⟩:=Cq hn k7;have hc:=IZ ht k7;cases hrep:oH E fs m (lZ E.p t.fJ) with
    | true=>
     rw[Vs rfl];have a0:((zD E.p (lZ E.p t.fJ)).length:Int)=t.iY:=by rw[g1,uo g2];exact g4
     have:=hr (lZ E.p t.fJ) m hm (vH hrep).2.2.1 ⟨i,g1,x,g2,g3⟩ hrep fh h1;rw[a0] at this;exact this.more fh (Vz _)
    | false=>
     rw[Vo gm];have a3:=Ov E.p hE.pc.ov (lZ E.p t.fJ);have:=rm (dd:=1-t.iY) (n0:=200+jJ d) hm (code:=12) (arg:=rq E.p (lZ E.p t.fJ)) (line:=k) (ft:=s.ft) ⟨fh,fh⟩ hk hs.ft (.inr (.inr (.inr (.inr (.inl ⟨.inl rfl,fh,fh⟩)))));rw[show m.fv-t.iY+1=m.fv+(1-t.iY) from fh];exact this
   ·rw[Vo k7,Dh ht k0 k1 k7]
    rw[Dh ht k0 k1 k7] at h0;have a4:=E2 ht;exact rm (dd:=-1) hm ⟨fh,fh⟩ hk hs.ft (.inr (.inr (.inl ⟨.inl ⟨fh,fh⟩,rfl⟩)))
mutual
theorem Ex.jE {E:gw}{rep:Int->gA->gA}{fs:D Int}{s:fV}{k:Int}{d:Nat}(hE:iH E)(hs:iS E s)(hr:vv E rep fs d)(hk:0<=k/\k<E.p.length):∀(e:Ex)(m:gA),e.wf->zU E.p s.fM e.flat=H->jt E m->0<=m.fv->m.fv+e.size<=lD d+1->hU E m (e.comp E rep fs s k m) 1 (200+jJ d) e.size
 | .node t ks,m,hw,hn,hm,h0,h1=>by
  simp only[Ex.size] at h1;simp only[Ex.flat,zU,List.all_cons,Vt] at hn;have a0:=ks.lW;have g1:=ig.jE hE hs hr hk ks m hw.2.2 hn.2 hm h0 fh;have g2:=TB hE hs hr g1.ok hw.1 hn.1 hk (by rw[g1.fv,hw.2.1];omega) (by rw[g1.fv];omega);exact((g1.trans g2).jN (by rw[hw.2.1];omega)).more (by simp only[Ex.size];omega) (Vz _)
theorem ig.jE {E:gw}{rep:Int->gA->gA}{fs:D Int}{s:fV}{k:Int}{d:Nat}(hE:iH E)(hs:iS E s)(hr:vv E rep fs d)(hk:0<=k/\k<E.p.length):∀(ks:ig)(m:gA),ks.wf->zU E.p s.fM ks.flat=H->jt E m->0<=m.fv->m.fv+ks.size<=lD d+1->hU E m (ks.comp E rep fs s k m) ks.len (200+jJ d) ks.size
 | .nil,m,_,_,hm,_,_=>hU.refl hm
 | .cons e r,m,hw,hn,hm,h0,h1=>by
  simp only[ig.size] at h1;simp only[ig.flat,zU,XU,Vt] at hn;have he:=e.size_pos;have g1:=Ex.jE hE hs hr hk e m hw.1 hn.1 hm h0 fh;have g2:=ig.jE hE hs hr hk r _ hw.2 hn.2 g1.ok (by rw[g1.fv];omega) (by rw[g1.fv];omega);exact((g1.trans g2).jN (by simp only[ig.len];omega)).more (by simp only[ig.size];omega) (Vz _)
end
theorem Br {E:gw} {m:gA} {s:fV} {i:Int} (hE:iH E)(hs:iS E s)(hm:jt E m)(hd:0<=m.fv/\m.fv<=1000)(hi:0<=i/\i<8)(hline:0<=line/\line<E.p.length)(hchain:ft.length<=3/\∀ c∈ft,0<=c/\c<E.p.length) :
  hU E m (ni E m s i line ft) (-1) n0 1:=rm (dd:=-1) hm hd hline hchain (.inr (.inl (Jz hE hs hd hi)))
theorem Ej {E:gw} {m:gA} (hm:jt E m)(hd:0<=m.fv/\m.fv<=1000)(hv:0<=v/\v<=999)(hline:0<=line/\line<E.p.length)(hchain:ft.length<=3/\∀ c∈ft,0<=c/\c<E.p.length) :
  hU E m (mx E m v line ft) 1 n0 1:=rm hm hd hline hchain (.inl ⟨rfl,hv⟩)
theorem GX {E:gw}{x:fV}{k:Int}{ft:D Int}{n0:Nat}(hE:iH E)(hs:iS E x)(hline:0<=k/\k<E.p.length)(hchain:ft.length<=3/\∀ c∈ft,0<=c/\c<E.p.length):∀(n:Nat)(m:gA),jt E m->(n:Int)<=m.fv->m.fv<=1000->n<=8->hU E m (rB E x k ft n m) (-(n:Int)) n0 n
 | 0,m,hm,_,_,_=>hU.refl hm
 | n+1,m,hm,h0,h1,h8=>by
  have g1:hU E m (ni E m x n k ft) (-1) n0 1:=Br hE hs hm ⟨fh,h1⟩ ⟨fh,fh⟩ hline hchain;have g2:=GX hE hs hline hchain (n0:=n0) n _ g1.ok (by rw[g1.fv];omega) (by rw[g1.fv];omega) fh;exact((g1.trans g2).jN fh).more fh (Vz _)
theorem Hm {E:gw}{x:fV}{k:Int}{ft:D Int}{n0:Nat}(hE:iH E)(hs:iS E x)(hline:0<=k/\k<E.p.length)(hchain:ft.length<=3/\∀ c∈ft,0<=c/\c<E.p.length):∀(n i:Nat)(m:gA),jt E m->0<=m.fv->m.fv<=999->i+n<=8->hU E m (sN E x k ft n i m) 0 n0 (2*n)
 | 0,i,m,hm,_,_,_=>hU.refl hm
 | n+1,i,m,hm,h0,h1,h8=>by
  have g0:hU E m (mx E m 0 k ft) 1 n0 1:=Ej hm ⟨h0,fh⟩ ⟨fh,fh⟩ hline hchain;have g1:hU E (mx E m 0 k ft) (ni E (mx E m 0 k ft) x i k ft) (-1) n0 1:=Br hE hs g0.ok ⟨by rw[g0.fv];omega,by rw[g0.fv];omega⟩ ⟨fh,fh⟩ hline hchain;have g2:=Hm hE hs hline hchain (n0:=n0) n (i+1) _ g1.ok (by rw[g1.fv,g0.fv];omega) (by rw[g1.fv,g0.fv];omega) fh;exact(((g0.trans g1).trans g2).jN fh).more fh (Vz _)
theorem Om (out:D G)(x:fB):out.length<=(tt out x).length:=by
 unfold tt;split
 ·simp
 ·exact Vz _
theorem GU:∀(l:D fB)(n:Nat)(out:D G),out.length<=(qF l n out).length
 | _,0,out=>by cases ‹D fB› <;> exact Vz _
 | [],_+1,out=>Vz _
 | x::r,n+1,out=>VL (Om out x) (GU r n _)
theorem NF {e:Nat} (he:gZ p i e)(hx:p[i]?=F x)(h0:x.fC=0):x.gD.length<=(zu p i).length:=by
 unfold zu;rw[he.ju,Vo fh];simp only[Vy,hx,h0,Xe];exact GU _ _ _
def kB (p:D fB)(g:Int):Prop:=∃ i:Nat,g=(i:Int)/\∃ x,p[i]?=F x/\x.fC=0
theorem kB.parts {E:gw} (hE:iH E){g:Int}(h:kB E.p g):((zD E.p g).length<=4/\(zD E.p g).length<=(zu E.p g).length/\(zu E.p g).length<=8):=by
 obtain⟨i,rfl,x,hx,h0⟩:=h;obtain⟨e,h1,h2,h3⟩:=hE.pc.body i x hx h0;rw[uo hx];exact⟨hE.pc.args i x hx,NF h1 hx h0,h2⟩
theorem AK {E:gw} {s:fV} {g k:Int} (hE:iH E)(hs:iS E s)(hg:kB E.p g)(hk:0<=k/\k<E.p.length)(hc:s.ft.length<=2):iS E (kA E g k s):=by
 have hp:=hg.parts hE;obtain⟨i,rfl,x,hx,h0⟩:=hg;obtain⟨e,h1,h2,h3⟩:=hE.pc.body i x hx h0;have hf:=hs.first;have hl:=hs.fM.2;refine⟨⟨i,e,x,rfl,hx,h0,h1,h3⟩,⟨rfl,h2⟩,?_,?_,fun h=>by cases h⟩
 ·unfold kA pJ
  simp only[Vk,VC,VZ];split
  ·rename_i ho
   obtain⟨h4,h5,h6⟩:=hs.iu ho;have:=hE.args;rw[h4];simp only[VZ];omega
  ·omega
 ·unfold kA
  simp only[Vk,VC,VZ,VA,Vi];refine⟨fh,fun c hc'=>?_⟩;rcases hc' with h | rfl
  ·exact hs.ft.2 c h
  ·exact hk
theorem Iz {E:gw} {s:fV} {g k:Int} {m:gA} (hE:iH E)(hs:iS E s)(hg:kB E.p g)(hk:0<=k/\k<E.p.length)(hk0:lC E.p k≠0)(hc:s.ft.length<=2)(hm:jt E m)(h0:((zD E.p g).length:Int)<=m.fv)(h1:m.fv<=900) :
  hU E m (pX E g k s m) (-((zD E.p g).length:Int)) n0 21:=by
 have hp:=hg.parts hE;have hx:=AK hE hs hg hk hc;have hf:=hx.first
 have a1:0<=pJ E s/\pJ E s<=24:=by
  have h2:=hf;unfold kA at h2;simp only[Vk,VC,VZ] at h2;omega
 have a3:(kA E g k s).fM.length<=8:=hx.fM.2;have a0:(kA E g k s).fM=zu E.p g:=rfl;unfold pX;simp only;have g0:hU E m (m.j7 (max m.most (pJ E s+(kA E g k s).fM.length))) 0 n0 0:=⟨⟨hm.iM,hm.pos⟩,jh.refl _,by simp[gA.j7],by simp only[gA.j7];omega,by simp only[gA.j7];omega⟩
 have g1:=GX (n0:=n0) hE hx hk hs.ft (zD E.p g).length _ g0.ok (by rw[g0.fv];omega) (by rw[g0.fv];omega) fh;have g2:=Hm (n0:=n0) hE hx hk hs.ft ((kA E g k s).fM.length-(zD E.p g).length) (zD E.p g).length _ g1.ok (by rw[g1.fv,g0.fv];omega) (by rw[g1.fv,g0.fv];omega) (by rw[a0];omega);have g3:=(g0.trans g1).trans g2;have a2:=g3.fv;split
 ·have g4:=rm (dd:=0) (n0:=n0) g3.ok (code:=15) (arg:=0) (line:=k) (ft:=s.ft) ⟨fh,fh⟩ hk hs.ft (.inr (.inr (.inr (.inr (.inl ⟨.inr (.inr ⟨rfl,hk0⟩),fh,fh⟩)))))
  rw[Xj] at g4;exact((g3.trans g4).jN fh).more (by rw[a0];omega) (Vz _)
 ·exact(g3.jN fh).more (by rw[a0];omega) (Vz _)
structure mU (E:gw)(L:jC):Prop where
 mo:jt E L.m
 fI:∀ j∈L.fI,iW L.m.fx j
 fS:∀ e∈L.fS,iW L.m.fx e.2
 gj:∀ h∈L.gj,0<=h/\h<=L.m.fx.length
theorem mU.up {E:gw} {L:jC} {m:gA} (h:mU E L)(hm:jt E m)(hk:jh L.m.fx m.fx):mU E (L.wm m):=
 ⟨hm,fun j hj=>hk.jump j (h.fI j hj),fun e he=>hk.jump _ (h.fS e he),fun a ha=>by have:=h.gj a ha;have:=hk.len;simp only[jC.wm];omega⟩
theorem EW {E:gw} {m:gA} {es:D (Int × Int)} {tgt:Int} (hm:jt E m)(he:∀ e∈es,iW m.fx e.2):hU E m (kp m es tgt) 0 n0 0:=by
 obtain⟨h1,h2⟩:=sw es m.fx tgt m.fx.length;exact⟨⟨Fe es m.fx tgt _ hm.iM he fh fh,by have:=hm.pos;simp only[kp,gA.jH,h2];exact this⟩,h1,by simp[kp,gA.jH],by simp only[kp,gA.jH,h2];omega,by simp only[kp,gA.jH];omega⟩
theorem Bm (E:gw)(k:Nat)(ft:D Int)(gj:D Int):∀(n i:Nat)(m:gA),(pE E k ft gj n i m=m/\∀ j,i<=j->j<i+n->¬ (gZ E.p j k/\lC E.p j=5))∨∃ j,i<=j/\j<i+n/\gZ E.p j k/\lC E.p j=5/\pE E k ft gj n i m=zC E m 10 (gj.getD j 0) k ft
 | 0,i,m=>.inl ⟨rfl,fun j a b=>fh⟩
 | n+1,i,m=>by
  unfold pE;by_cases h:jA E.p i=k/\(E.p[i]?.map fB.fC)=F 5
  ·rw[Vs h]
   have he:=O6 h.1;have a0:lC E.p i=5:=by unfold lC;rw[Vy,h.2];rfl
   rcases Bm E k ft gj n (i+1) (zC E m 10 (gj.getD i 0) k ft) with⟨h1,_⟩ | ⟨j,a,b,c,_⟩
   ·exact .inr ⟨i,Vz _,fh,he,a0,h1⟩
   ·have:=he.same c;omega
  ·rw[Vo h]
   rcases Bm E k ft gj n (i+1) m with⟨h1,h2⟩ | ⟨j,a,b,c⟩
   ·refine .inl ⟨h1,fun j a b hc=>?_⟩
    by_cases hj:j=i
    ·subst hj
     refine h ⟨hc.1.ju,?_⟩;have h5:=hc.2;unfold lC at h5;rw[Vy] at h5;cases hx:E.p[j]?.map fB.fC with
     | none=>rw[hx] at h5;simp at h5
     | some v=>rw[hx] at h5;simp only[WM] at h5;rw[h5]
    ·exact h2 j fh fh hc
   ·exact .inr ⟨j,fh,fh,c⟩
theorem Cr (p:D fB)(k item:Int):∀(n i:Nat),∀ e∈mZ p k item n i,e.2=item
 | 0,_,e,h=>by cases h
 | n+1,i,e,h=>by
  unfold mZ at h;split at h
  ·rcases VT.1 h with rfl | h
   ·rfl
   ·exact Cr p k item n (i+1) e h
  ·exact Cr p k item n (i+1) e h
theorem Hv {E:gw} {s:fV} {k:Int} {last:Bool} {L:jC} (hE:iH E)(hs:iS E s)(hL:mU E L)(hd:0<=L.m.fv/\L.m.fv<=1000)(hk:0<=k/\k<E.p.length):mU E (lH E s k last L)/\hU E L.m (lH E s k last L).m (-1) n0 1/\(lH E s k last L).fS=L.fS/\(lH E s k last L).gj=L.gj:=by
 have ha:=hE.args;have hw:=hE.fO;unfold lH;split
 ·split
  ·have g:hU E L.m ((zC E L.m 14 E.args k s.ft).gR (L.m.fv + -1)) (-1) n0 1:=rm hL.mo hd hk hs.ft (.inr (.inr (.inr (.inr (.inl ⟨.inr (.inl rfl),fh,fh⟩)))))
   exact⟨hL.up g.ok g.keeps,g,rfl,rfl⟩
  ·have g:hU E L.m ((zC E L.m 16 (E.args+16*E.fO) k s.ft).gR (L.m.fv + -1)) (-1) n0 1:=rm hL.mo hd hk hs.ft (.inr (.inr (.inr (.inr (.inr ⟨rfl,fh,fh⟩)))))
   exact⟨hL.up g.ok g.keeps,g,rfl,rfl⟩
 ·split
  ·have g:hU E L.m (L.m.gR (L.m.fv-1)) (-1) n0 1:=⟨⟨hL.mo.iM,hL.mo.pos⟩,jh.refl _,rfl,by simp only[gA.gR];omega,by simp only[gA.gR];omega⟩
   exact⟨hL.up g.ok g.keeps,g,rfl,rfl⟩
  ·have g:hU E L.m ((zC E L.m 10 0 k s.ft).gR (L.m.fv + -1)) (-1) n0 1:=rm hL.mo hd hk hs.ft (.inr (.inr (.inr (.inl ⟨.inl rfl,fh,fh⟩))))
   have g2:=hL.up g.ok g.keeps;refine⟨⟨g2.mo,fun j hj=>?_,g2.fS,g2.gj⟩,g,rfl,rfl⟩;rcases VA.1 hj with h | h
   ·exact g2.fI j h
   ·rw[Vi.1 h]
    exact CT E L.m 10 0 k s.ft (.inl rfl)
theorem vL (h:p[k]?=F x):lC p (k:Int)=x.fC:=by
 unfold lC;rw[Vy,h];rfl
theorem P4 {l:D Int} (h:∀ a∈l,0<=a/\a<=(n:Int))(hv:0<=v/\v<=(n:Int)):∀ a∈l.set i v,0<=a/\a<=(n:Int):=fun a ha=>by
 rcases Xg ha with h1 | rfl
 ·exact h a h1
 ·exact hv
theorem PZ {l:D Int} (j:Nat)(h:∀ a∈l,0<=a/\a<=(n:Int)):0<=l.getD j 0/\l.getD j 0<=(n:Int):=by
 rw[VR];cases hx:l[j]? with
 | none=>simp
 | some a=>exact h a (Vx hx)
theorem CG {k:Int} (h:0<=k/\k<=7)(h0:k≠0)(h4:k≠4)(h7:k≠7):sF k=H:=by
 unfold sF;simp only[Ya,VD];omega
theorem IF {E:gw} {rep:Int->gA->gA} {s:fV} {e:Nat} {L:jC} (hE:iH E)(hs:iS E s)(hr:vv E rep fs d)(hL:mU E L)(hf:s.f=(i:Int))(he:gZ E.p i e)(h1:i<k)(h2:k<=e)(hx:E.p[k]?=F x)
  (hd:0<=L.m.fv/\L.m.fv<=lD (d+1)):mU E (kV E rep fs s e k x L)/\hU E L.m (kV E rep fs s e k x L).m 0 (200+jJ d) 24:=by
 have ak:=(Vh.1 hx).1;have hk:0<=(k:Int)/\(k:Int)<E.p.length:=⟨fh,fh⟩
 have af:lD (d+1)=lD d-30:=by unfold lD;omega
 have ab:lD d<=900:=by unfold lD;omega
 have g0:hU E L.m (kp L.m L.fS k) 0 (200+jJ d) 0:=EW hL.mo hL.fS;have a4:=hL.up g0.ok g0.keeps;have a1:(kp L.m L.fS k).fx.length=L.m.fx.length:=(sw _ _ _ _).2;have ac:(kp L.m L.fS k).fv=L.m.fv:=rfl;have ae:(kp L.m L.fS k).most=L.m.most:=rfl;unfold kV;simp only;generalize kp L.m L.fS (k:Int)=m0 at g0 a4 a1 ac ae |-;by_cases k4:x.fC=4
 ·rw[Vs k4]
  have g1:=rm (dd:=0) (n0:=200+jJ d) g0.ok (code:=10) (arg:=0) (line:=k) (ft:=s.ft) ⟨by rw[g0.fv];omega,by rw[g0.fv];omega⟩ hk hs.ft (.inr (.inr (.inr (.inl ⟨.inl rfl,fh,fh⟩))));rw[Xj] at g1;have a2:=a4.up g1.ok g1.keeps
  have a6:∀ z∈L.fS++mZ E.p k L.m.fx.length (k-s.f.toNat) s.f.toNat,iW (zC E m0 10 0 k s.ft).fx z.2:=fun z hz=>by
   rcases VA.1 hz with h | h
   ·exact a2.fS z h
   ·rw[Cr _ _ _ _ _ z h,<-a1]
    exact CT E _ 10 0 k s.ft (.inl rfl)
  have g2:=EW (tgt:=-(k:Int)) (n0:=200+jJ d) g1.ok a6;have a3:=a2.up g2.ok g2.keeps;exact⟨⟨a3.mo,a3.fI,fun z hz=>g2.keeps.jump _ (a6 z hz),a3.gj⟩,(((g0.trans g1).trans g2).jN fh).more fh (Vz _)⟩
 ·rw[Vo k4]
  by_cases k7:x.fC=7
  ·rw[Vs k7]
   by_cases aa:k=e
   ·rw[Vs aa]
    have g1:hU E m0 (mx E m0 0 k s.ft) 1 (200+jJ d) 1:=Ej g0.ok ⟨by rw[g0.fv];omega,by rw[g0.fv];omega⟩ ⟨fh,fh⟩ hk hs.ft;have a2:=a4.up g1.ok g1.keeps;obtain⟨w1,w2,_,_⟩:=Hv (last:=H) (n0:=200+jJ d) hE hs a2 ⟨by have:=g1.fv;simp only[jC.wm];omega,by have:=g1.fv;simp only[jC.wm];omega⟩ hk;exact⟨w1,(((g0.trans g1).trans w2).jN fh).more fh (Vz _)⟩
   ·rw[Vo aa]
    rcases Bm E k s.ft L.gj (k-(s.f.toNat+1)) (s.f.toNat+1) m0 with⟨w,_⟩ | ⟨j,_,_,_,_,w⟩
    ·rw[w]
     exact⟨a4,g0.more fh (Vz _)⟩
    ·rw[w]
     have hh:0<=L.gj.getD j 0/\L.gj.getD j 0<=(m0.fx.length:Int):=PZ j a4.gj;have g1:=rm (dd:=0) (n0:=200+jJ d) g0.ok (code:=10) (arg:=L.gj.getD j 0) (line:=k) (ft:=s.ft) ⟨by rw[g0.fv];omega,by rw[g0.fv];omega⟩ hk hs.ft (.inr (.inr (.inr (.inl ⟨.inl rfl,hh.1,fh⟩))));rw[Xj] at g1;exact⟨a4.up g1.ok g1.keeps,((g0.trans g1).jN fh).more fh (Vz _)⟩
  ·rw[Vo k7]
   have aa:k≠e:=fun hh=>by
    subst hh;obtain⟨y,hy,h7⟩:=he.last;rw[hx] at hy;injection hy with hy
    exact k7 (by rw[hy];exact h7)
   obtain⟨i',e',z,w1,w2,w3,w4,w5⟩:=hs.rP;have ah:i'=i:=by rw[hf] at w1;omega
   subst ah;have ag:=w4.kR he;subst ag;obtain⟨n1,n2,n3,n4⟩:=w5 k x h1 fh hx;have a5:=zr.1 (hE.pc.kind k x hx);have a9:sF x.fC=H:=CG a5 n1 k4 k7;obtain⟨ex,e1,e2,e3⟩:=hE.pc.expr k x hx a9;have ai:jt E m0.begun:=⟨g0.ok.iM,g0.ok.pos⟩
   have g1:hU E m0.begun (tG E rep fs s k x.Expr m0.begun) 1 (200+jJ d) ex.size:=by
    rw[e2,BK e1];rw[e2] at n2;refine Ex.jE hE hs hr hk ex _ e1 ?_ ai (by simp only[gA.begun];omega) ?_
    ·rw[hs.fM.1,hf]
     exact n2
    ·have:=hd.2
     simp only[gA.begun];omega
   have a0:hU E L.m (tG E rep fs s k x.Expr m0.begun) 1 (200+jJ d) 20:=
    ⟨g1.ok,g0.keeps.trans g1.keeps,by rw[g1.fv,<-ac];rfl,by have h8:=g1.cnt;rw[show m0.begun.fx.length=L.m.fx.length from a1] at h8;omega,by have h9:=g1.most;rw[show m0.begun.most=L.m.most from ae] at h9;exact h9⟩
   generalize tG E rep fs s k x.Expr m0.begun=m1 at g1 a0;have a7:=hL.up a0.ok a0.keeps;have a2:mU E { m:=m1,fI:=L.fI,gj:=L.gj.set k L.m.fx.length,fS:=L.fS }:=⟨a7.mo,a7.fI,a7.fS,P4 a7.gj ⟨fh,by have:=a0.keeps.len;simp only;omega⟩⟩
   have a8:0<=m1.fv/\m1.fv<=1000:=by rw[a0.fv];omega
   by_cases k1:x.fC=1
   ·rw[Vs k1]
    have ad:=n4 k1;rw[<-hf,<-hs.fM.1] at ad;have aj:=AG s.fM x.fJ 0 ad;have al:=hs.fM.2;have g2:hU E m1 (ni E m1 s (so s.fM x.fJ 0) k s.ft) (-1) (200+jJ d) 1:=Br hE hs a0.ok a8 ⟨fh,fh⟩ hk hs.ft;exact⟨a2.up g2.ok g2.keeps,((a0.trans g2).jN fh).more fh (Vz _)⟩
   ·rw[Vo k1]
    by_cases k2:x.fC=2
    ·rw[Vs k2]
     have g2:hU E m1 ((zC E m1 17 0 k s.ft).gR (m1.fv + -1)) (-1) (200+jJ d) 1:=rm a0.ok a8 hk hs.ft (.inr (.inr (.inl ⟨.inr rfl,rfl⟩)));exact⟨a2.up g2.ok g2.keeps,((a0.trans g2).jN fh).more fh (Vz _)⟩
    ·rw[Vo k2]
     by_cases k6:x.fC=6
     ·rw[Vs k6]
      obtain⟨w1,w2,_,_⟩:=Hv (last:=M) (n0:=200+jJ d) hE hs a2 a8 hk;exact⟨w1,((a0.trans w2).jN fh).more fh (Vz _)⟩
     ·rw[Vo k6]
      have g2:hU E m1 ((zC E m1 11 0 k s.ft).gR (m1.fv + -1)) (-1) (200+jJ d) 1:=rm a0.ok a8 hk hs.ft (.inr (.inr (.inr (.inl ⟨.inr rfl,fh,fh⟩))));have a3:=a2.up g2.ok g2.keeps;refine⟨⟨a3.mo,a3.fI,fun z hz=>?_,a3.gj⟩,((a0.trans g2).jN fh).more fh (Vz _)⟩;rcases VA.1 hz with h | h
      ·exact a3.fS z h
      ·rw[Vi.1 h]
       exact CT E m1 11 0 k s.ft (.inr rfl)
theorem Nk {E:gw} {rep:Int->Int->gA->gA} {s:fV} {e:Nat} (hE:iH E)(hs:iS E s)(hr:∀ k:Nat,lC E.p k≠0->k<E.p.length->vv E (rep k) fs d)(hf:s.f=(i:Int))(he:gZ E.p i e) :
  ∀(n k:Nat) (L:jC),mU E L->i<k->k+n=e+1->0<=L.m.fv->L.m.fv<=lD (d+1)->mU E (oL E rep fs s e (E.p.drop k) n k L)/\hU E L.m (oL E rep fs s e (E.p.drop k) n k L).m 0 (200+jJ d) (24*n):=by
 intro n;induction n with
 | zero=>
  intro k L hL _ _ _ _;have:oL E rep fs s e (E.p.drop k) 0 k L=L:=by cases E.p.drop k <;> rfl
  rw[this];exact⟨hL,hU.refl hL.mo⟩
 | succ n ih=>
  intro k L hL a1 a5 h0 h1;have a0:k<E.p.length:=by have:=he.len;omega
  have hx:E.p[k]?=F E.p[k]:=Vq a0;rw[VB a0]
  have a4:lC E.p k≠0:=by
   rw[vL hx];intro h;by_cases hke:k=e
   ·subst hke
    obtain⟨y,hy,h7⟩:=he.last;rw[hx] at hy;injection hy with hy
    rw[hy] at h;omega
   ·obtain⟨i',e',z,w1,w2,w3,w4,w5⟩:=hs.rP
    have a3:i'=i:=by rw[hf] at w1;omega
    subst a3;have a2:=w4.kR he;subst a2;exact(w5 k _ a1 fh hx).1 h
  obtain⟨g1,g2⟩:=IF hE hs (hr k a4 a0) hL hf he a1 fh hx ⟨h0,h1⟩;obtain⟨g3,g4⟩:=ih (k+1) _ g1 fh fh (by rw[g2.fv];omega) (by rw[g2.fv];omega);exact⟨g3,((g2.trans g4).jN fh).more fh (Vz _)⟩
def FU (E:gw)(lines:D Int->fV->gA->gA × D Int)(d:Nat):Prop:=∀(fs:D Int)(s:fV)(m:gA)(i e:Nat),iS E s->s.fI = []->fs.length=s.ft.length+1->s.ft.length+d=3->jt E m->s.f=(i:Int)->gZ E.p i e->0<=m.fv->m.fv<=lD (d+1)->
 hU E m (lines fs s m).1 0 (200+jJ d) (24*(e-i))/\∀ j∈(lines fs s m).2,iW (lines fs s m).1.fx j
theorem GD {E:gw} {lines:D Int->fV->gA->gA × D Int} {s:fV} (hE:iH E)(hs:iS E s)(hl:FU E lines d)(hfs:fs.length=s.ft.length+1)(hd:s.ft.length+(d+1)=3)(hk:k<E.p.length)(hk0:lC E.p k≠0):vv E (fun g m=>zL E lines fs k s g m) fs (d+1):=by
 intro g m hm a5 hg a0 h0 h1;have a1:s.ft.length<=2:=fh;have a3:0<=(k:Int)/\(k:Int)<E.p.length:=⟨fh,fh⟩
 have a4:lD (d+1)<=900:=by unfold lD;omega
 have g1:=Iz (n0:=200) hE hs hg a3 hk0 a1 hm h0 fh;have hx:=AK hE hs hg a3 a1;have a7:=vH a0;obtain⟨i,rfl,x,a9,a8⟩:=hg;obtain⟨e,he,_,_⟩:=hE.pc.body i x a9 a8;have a6:=a7.2.1;rw[he.ju] at a6;have a2:(kA E i k s).ft.length=s.ft.length+1:=by unfold kA;simp
 obtain⟨g2,g3⟩:=hl (fs++[(i:Int)]) (kA E i k s) (pX E i k s m) i e hx rfl (by rw[a2];simp[hfs]) (by rw[a2];omega) g1.ok rfl he (by rw[g1.fv];omega) (by rw[g1.fv];omega);obtain⟨g4,g5⟩:=Bk (lines (fs++[(i:Int)]) (kA E i k s) (pX E i k s m)).2 (lines (fs++[(i:Int)]) (kA E i k s) (pX E i k s m)).1.fx (lines (fs++[(i:Int)]) (kA E i k s) (pX E i k s m)).1.fx.length;unfold zL;simp only;refine⟨⟨?_,?_⟩,?_,?_,?_,?_⟩
 ·exact I9 _ _ _ g2.ok.iM g3 fh fh
 ·simp only[gA.gR,gA.jH,g5];exact g2.ok.pos
 ·exact(g1.keeps.trans g2.keeps).trans g4
 ·simp only[gA.gR];rw[g1.fv];omega
 ·simp only[gA.gR,gA.jH,g5]
  have h5:=g1.cnt;have h6:=g2.cnt;have h7:24*(e-i)<=216:=fh;have h8:jJ (d+1)=jJ d+250:=by unfold jJ;omega
  omega
 ·simp only[gA.gR,gA.jH]
  have h5:=g1.most;have h6:=g2.most;omega
theorem Jp {E:gw} (hE:iH E){d:Nat}(hrep:∀(fs:D Int)(s:fV)(k:Nat),iS E s->fs.length=s.ft.length+1->s.ft.length+d=3->k<E.p.length->lC E.p k≠0->vv E (fun g m=>zL E (zX E d) fs k s g m) fs d):FU E (zX E (d+1)) d:=by
 intro fs s m i e hs a3 a2 a4 hm hf he h0 h1;have a0:mU E ⟨m,s.fI,VP E.p.length 0,[]⟩:=⟨hm,fun j hj=>(by simp only[a3] at hj;cases hj),fun z hz=>(by cases hz),fun a ha=>(by rw[XQ ha];simp)⟩
 have a5:=he.lt;obtain⟨g1,g2⟩:=Nk (rep:=fun k g m=>zL E (zX E d) fs k s g m) hE hs (fun k hk0 hk=>hrep fs s k hs a2 a4 hk hk0) hf he (e-i) (i+1) ⟨m,s.fI,VP E.p.length 0,[]⟩ a0 fh fh h0 h1
 have a1:zX E (d+1) fs s m=((oL E (fun k g m=>zL E (zX E d) fs k s g m) fs s e (E.p.drop (i+1)) (e-i) (i+1) ⟨m,s.fI,VP E.p.length 0,[]⟩).m,(oL E (fun k g m=>zL E (zX E d) fs k s g m) fs s e (E.p.drop (i+1)) (e-i) (i+1) ⟨m,s.fI,VP E.p.length 0,[]⟩).fI):=by
  show vm E (fun fs s k g m=>zL E (zX E d) fs k s g m) fs s m=_;unfold vm;simp only[hf,he.ju,Vy]
 rw[a1];exact⟨g2,g1.fI⟩
theorem E7 {E:gw} (hE:iH E):∀ d:Nat,FU E (zX E (d+1)) d:=by
 intro d;induction d with
 | zero=>
  refine Jp hE (fun fs s k hs hfs hd hk hk0=>?_);intro g m _ _ _ a0;have h1:=(vH a0).1;have h2:=hE.inl.2;omega
 | succ d ih=>exact Jp hE (fun fs s k hs hfs hd hk hk0=>GD hE hs ih hfs hd hk hk0)
theorem Et:∀(l:D fB)(k:Nat),∀ g∈lJ l k,∃ i:Nat,g=((k+i:Nat):Int)/\∃ x,l[i]?=F x/\x.fC=0
 | [],k,g,h=>by cases h
 | y::r,k,g,h=>by
  unfold lJ at h;by_cases hy:y.fC=0
  ·rw[Vs hy] at h
   rcases VT.1 h with rfl | h
   ·exact⟨0,rfl,y,rfl,hy⟩
   ·obtain⟨i,h1,x,h2,h3⟩:=Et r (k+1) g h
    exact⟨i+1,by rw[h1];congr 1;omega,x,by simpa using h2,h3⟩
  ·rw[Vo hy] at h
   obtain⟨i,h1,x,h2,h3⟩:=Et r (k+1) g h;exact⟨i+1,by rw[h1];congr 1;omega,x,by simpa using h2,h3⟩
theorem vI {g:Int} (h:(zn p)[f]?=F g):kB p g:=by
 obtain⟨i,h1,x,h2,h3⟩:=Et p 0 g (Vx h);exact⟨i,by rw[h1];simp,x,h2,h3⟩
theorem ug {g:Prop} (f:g:=by
  obtain⟨i,rfl,x,hx,h0⟩:=hfun
  have:=hp.args i x hx
  exact⟨hp,zr.1 hb,hw,by rw[uo hx];exact⟨by simp only;omega,by simp only;omega⟩⟩):g:=f
theorem zm {fO:Int} (hp:lq p)(hb:gE b.gN 0 3=H)(hf:f<(zn p).length)(hw:0<=fO/\fO<=100) :
  jr p (lI p b f fO).1/\0<(lI p b f fO).1.length/\(lI p b f fO).1.length<=2400/\0<=(lI p b f fO).2/\(lI p b f fO).2<=40:=by
 have hg:(zn p)[f]?=F (zn p)[f]:=Vq hf;have hfun:=vI hg;unfold lI;rw[hg];simp only[WM];generalize (zn p)[f]=g at hfun
 have hE:iH ⟨p,b.gN,kZ b f,fO,((zD p g).length:Int)⟩:=by
  exact ug
 have a2:=hfun.parts hE;simp only at a2;obtain⟨i,rfl,x,hx,h0⟩:=hfun;obtain⟨e,he,h8,a3⟩:=hp.body i x hx h0;generalize hEE:(⟨p,b.gN,kZ b f,fO,((zD p (i:Int)).length:Int)⟩:gw)=E at hE;have a0:E.p=p:=by rw[<-hEE]
 have a5:E.args=((zD p (i:Int)).length:Int):=by rw[<-hEE]
 have aa:=(Vh.1 hx).1
 have hs:iS E ⟨i,[],zu p i,0,H,[]⟩:=by
  refine⟨⟨i,e,x,rfl,by rw[a0];exact hx,h0,by rw[a0];exact he,by rw[a0];exact a3⟩,⟨by rw[a0],h8⟩,⟨Xv _,by simp⟩,⟨by simp,fun c hc=>(by cases hc)⟩,fun _=>⟨rfl,rfl,by rw[a5];simp only;omega⟩⟩
 have hm:jt E ((zC E ⟨[],0,((zu p i).length:Int)-((zD p (i:Int)).length:Int),M⟩ (if kZ b f=H then 13 else 15) fO i []).gR fO):=by
  refine⟨?_,by simp[zC,gA.gR]⟩;intro j y hy;have a9:=(Vh.1 hy).1;simp only[gA.gR,zC,Wo,VC,VZ] at a9;have hj:j=0:=by omega
  subst hj;simp only[gA.gR,zC,Wo,VU,VO] at hy;subst hy;have a4:lC E.p (i:Int)=0:=by rw[a0,vL hx];exact h0
  simp only[gA.gR,zC,Wo,mP,VZ,Yp,decide_false,Zn];have a1:(if kZ b f=H then (13:Int) else 15)=13∨(if kZ b f=H then (13:Int) else 15)=15:=by split <;> simp
  generalize (if kZ b f=H then (13:Int) else 15)=code at a1;refine⟨by simp only;omega,fun h=>by simp only at h;omega,fun h h'=>by simp only at h h';omega,fun h=>by simp only at h;omega,fun h=>by simp only at h;omega,fun _ _=>hw,fun h=>by simp only at h;omega,⟨by simp only;omega,by rw[a0];simp only;omega⟩,⟨by simp,fun c hc=>(by cases hc)⟩,⟨by simp,by simp,fun h=>(by cases h)⟩,⟨fun _=>?_,fun _=>rfl⟩⟩;rcases a1 with h | h
  ·exact .inl h
  ·exact .inr ⟨h,a4⟩
 have a6:((zC E ⟨[],0,((zu p i).length:Int)-((zD p (i:Int)).length:Int),M⟩ (if kZ b f=H then 13 else 15) fO i []).gR fO).fx.length=1:=by simp[zC,gA.gR]
 have a7:((zC E ⟨[],0,((zu p i).length:Int)-((zD p (i:Int)).length:Int),M⟩ (if kZ b f=H then 13 else 15) fO i []).gR fO).most=((zu p i).length:Int)-((zD p (i:Int)).length:Int):=rfl;have a8:((zC E ⟨[],0,((zu p i).length:Int)-((zD p (i:Int)).length:Int),M⟩ (if kZ b f=H then 13 else 15) fO i []).gR fO).fv=fO:=rfl;generalize (zC E ⟨[],0,((zu p i).length:Int)-((zD p (i:Int)).length:Int),M⟩ (if kZ b f=H then 13 else 15) fO i []).gR fO=U8 at hm a6 a7 a8 |-;have hL:=(E7 hE 3) [(i:Int)] ⟨i,[],zu p i,0,H,[]⟩ U8 i e hs rfl rfl rfl hm rfl (by rw[a0];exact he) (by omega) (by have:=hw.2;simp only[lD];omega);obtain⟨h1,_⟩:=hL;have h2:=h1.cnt;have h3:=h1.most;have h5:=he.len;have h6:=hp.len;have h7:=h1.ok.iM;have h9:=h1.ok.pos;rw[a0] at h7;rw[show 3+1=4 from rfl] at h2 h3 h7 h9;generalize zX E 4 [(i:Int)] ⟨i,[],zu p i,0,H,[]⟩ U8=R at h2 h3 h7 h9 |-;simp only[jJ] at h2;exact⟨h7,h9,by omega,by omega,by omega⟩
theorem En (hp:zA p=H)(hb:kC b=H)(hf:f<(zn p).length) :
  jr p (zx p b f)/\0<(zx p b f).length/\(zx p b f).length<=2400:=by
 have hF:=qC hp;unfold kC at hb;rw[Vt] at hb
 have a1:∀ q:D fB,lq q->f<(zn q).length->iP q p->jr p (lI q b f (lI q b f 0).2).1/\0<(lI q b f (lI q b f 0).2).1.length/\(lI q b f (lI q b f 0).2).1.length<=2400:=by
  intro q hq a0 hk;obtain⟨_,_,_,h4,h5⟩:=zm (fO:=0) hq hb.2 a0 ⟨fh,fh⟩;obtain⟨g1,g2,g3,_,_⟩:=zm (fO:=(lI q b f 0).2) hq hb.2 a0 ⟨h4,fh⟩;refine⟨fun j x hx=>?_,g2,g3⟩;have h:=g1 j x hx;have a3:∀ k,lC q k=lC p k:=fun k=>by unfold lC;rw[hk.at]
  exact⟨h.code,h.lit,h.var,h.op,h.jump,h.jj,h.ret,by rw[<-hk.len];exact h.line,by rw[<-hk.len];exact h.ft,h.fv,by rw[<-a3];exact h.first⟩
 unfold zx;simp only;split
 ·have a2:qE p=p.map zW:=by unfold qE;rw[Vs hp]
  rw[a2];exact a1 _ hF.fold (by rw[uO];exact hf) (CF p).symm
 ·exact a1 _ hF.c hf rfl
theorem Ff {α:Type}{T:Ty α}{w:V}(hf:∀{cs x S},T.O w cs x S->S = []):∀(xs:D α)(ecs:D Value)(S:D Nat)(k:Nat),gz T w ecs xs S->S = []/\gz T w (ecs.take (k*T.size)) (xs.take k) []
 | [],_,_,k,h=>by
  obtain⟨rfl,rfl⟩:=h;exact⟨rfl,by simp[gz]⟩
 | x::xs,_,_,0,h=>by
  obtain⟨c1,c2,S1,S2,rfl,rfl,h3,h4⟩:=h;obtain rfl:=hf h3;obtain⟨rfl,_⟩:=Ff hf xs c2 S2 0 h4;exact⟨rfl,by simp[gz]⟩
 | x::xs,_,_,k+1,h=>by
  obtain⟨c1,c2,S1,S2,rfl,rfl,h3,h4⟩:=h;obtain rfl:=hf h3;obtain⟨rfl,h5⟩:=Ff hf xs c2 S2 k h4;refine⟨rfl,c1,c2.take (k*T.size),[],[],?_,rfl,h3,h5⟩;have hl:=T.kQ h3;have e1:(k+1)*T.size-c1.length=k*T.size:=by rw[hl,Zi,Nat.add_sub_cancel]
  rw[List.take_append,e1,WE (by rw[hl,Zi];omega)]
theorem Has.cut {α:Type} {T:Ty α} (hf:∀{cs x S},T.O W cs x S->S = []){e:Wl}{A:N VQ}{n c k:Nat}{xs:D α}{S:D Nat}(h:Has (T.sl e) W [J A n c] xs S)(hk:k<=n):Has (T.sl e) W [J A k c] (xs.take k) S:=by
 obtain⟨⟨A',c',a1,S',h1,h2,h3,rfl⟩,hn⟩:=h;injection h1 with h1 _
 injection h1 with hA hn' hc
 subst hA hn' hc;have a0:(xs.take k).length=k:=by rw[WK];omega
 obtain⟨g1,g2⟩:=h2;obtain⟨rfl,h4⟩:=Ff hf xs a1 S' k h3;refine⟨⟨A,c,a1.take (k*T.size),[],by rw[a0],⟨by rw[h4.len],?_⟩,h4,rfl⟩,hn⟩;rw[a0];rcases g2 with⟨hv,h0⟩ | ⟨g,a3,a2,hv,hb,hg,hc,hm,hs,ht⟩
 ·injection hv with hA hn' hc
  subst hA hc;exact .inl ⟨by rw[show k=0 from fh],fh⟩
 ·injection hv with hA hn' hc'
  subst hA hc';refine .inr ⟨g,c,a2,rfl,hb,hg,fh,hm,hs,?_⟩;rw[<-ht,List.take_take,Zl (Xf _ hk)]
theorem ko {cur cur':Array Value} {v:Value} (h:W.heap[g]?=F (U cur e (0,0)))(hc:cur.setIfInBounds i v=cur'):(W.setCell ⟨g,i,I⟩ v).heap[g]?=F (U cur' e (0,0)):=by
 rw[py h i v,hc]
theorem vA (h:W.heap[g]?=F (U #[o0,o1,o2] e (0,0)))(v0 v1 v2:Value) :
  (((W.setCell ⟨g,0,I⟩ v0).setCell ⟨g,1,I⟩ v1).setCell ⟨g,2,I⟩ v2).heap[g]?=F (U #[v0,v1,v2] e (0,0))/\fG [g] W (((W.setCell ⟨g,0,I⟩ v0).setCell ⟨g,1,I⟩ v1).setCell ⟨g,2,I⟩ v2):=
 ⟨(ko (i:=2) (v:=v2) (cur':=#[v0,v1,v2]) (ko (i:=1) (v:=v1) (cur':=#[v0,v1,o2]) (ko (i:=0) (v:=v0) (cur':=#[v0,o1,o2]) h rfl) rfl) rfl),((((fG.refl _ _).setCell (p:=⟨g,0,I⟩) gm v0).setCell (p:=⟨g,1,I⟩) gm v1).setCell (p:=⟨g,2,I⟩) gm v2)⟩
theorem kL (h:W.heap[g]?=F (U #[o0,o1,o2] e (0,0))) :
  Vg W ⟨g,0,I⟩=F o0/\Vg W ⟨g,1,I⟩=F o1/\Vg W ⟨g,2,I⟩=F o2/\(∀ j,VE W ⟨g,j,I⟩=M)/\g<W.heap.size:=by
 refine⟨?_,?_,?_,fun j=>by simp[VE,h],(blt h)⟩
 all_goals
  rw[WC W g _ _ _ (0,0) h]
  rfl
theorem uF (h:W.heap[g]?=F (U #[o0,o1,o2,o3,o4] e (0,0)))(v0 v1 v2 v3 v4:Value) :
  (((((W.setCell ⟨g,0,I⟩ v0).setCell ⟨g,1,I⟩ v1).setCell ⟨g,2,I⟩ v2).setCell ⟨g,3,I⟩ v3).setCell ⟨g,4,I⟩ v4).heap[g]?=F (U #[v0,v1,v2,v3,v4] e (0,0))/\fG [g] W (((((W.setCell ⟨g,0,I⟩ v0).setCell ⟨g,1,I⟩ v1).setCell ⟨g,2,I⟩ v2).setCell ⟨g,3,I⟩ v3).setCell ⟨g,4,I⟩ v4):=
 ⟨(ko (i:=4) (v:=v4) (cur':=#[v0,v1,v2,v3,v4]) (ko (i:=3) (v:=v3) (cur':=#[v0,v1,v2,v3,o4]) (ko (i:=2) (v:=v2) (cur':=#[v0,v1,v2,o3,o4]) (ko (i:=1) (v:=v1) (cur':=#[v0,v1,o2,o3,o4]) (ko (i:=0) (v:=v0) (cur':=#[v0,o1,o2,o3,o4]) h rfl) rfl) rfl) rfl) rfl),((((((fG.refl _ _).setCell (p:=⟨g,0,I⟩) gm v0).setCell (p:=⟨g,1,I⟩) gm v1).setCell (p:=⟨g,2,I⟩) gm v2).setCell (p:=⟨g,3,I⟩) gm v3).setCell (p:=⟨g,4,I⟩) gm v4)⟩
theorem jO (h:W.heap[g]?=F (U #[o0,o1,o2,o3,o4] e (0,0))) :
  Vg W ⟨g,0,I⟩=F o0/\Vg W ⟨g,1,I⟩=F o1/\Vg W ⟨g,2,I⟩=F o2/\Vg W ⟨g,3,I⟩=F o3/\Vg W ⟨g,4,I⟩=F o4/\(∀ j,VE W ⟨g,j,I⟩=M)/\g<W.heap.size:=by
 refine⟨?_,?_,?_,?_,?_,fun j=>by simp[VE,h],(blt h)⟩
 all_goals
  rw[WC W g _ _ _ (0,0) h]
  rfl
theorem qT (h:W.heap[g]?=F (U #[o0,o1,o2,o3,o4,o5,o6] e (0,0)))(v0 v1 v2 v3 v4 v5 v6:Value) :
  (((((((W.setCell ⟨g,0,I⟩ v0).setCell ⟨g,1,I⟩ v1).setCell ⟨g,2,I⟩ v2).setCell ⟨g,3,I⟩ v3).setCell ⟨g,4,I⟩ v4).setCell ⟨g,5,I⟩ v5).setCell ⟨g,6,I⟩ v6).heap[g]?=F (U #[v0,v1,v2,v3,v4,v5,v6] e (0,0))/\fG [g] W (((((((W.setCell ⟨g,0,I⟩ v0).setCell ⟨g,1,I⟩ v1).setCell ⟨g,2,I⟩ v2).setCell ⟨g,3,I⟩ v3).setCell ⟨g,4,I⟩ v4).setCell ⟨g,5,I⟩ v5).setCell ⟨g,6,I⟩ v6):=
 ⟨(ko (i:=6) (v:=v6) (cur':=#[v0,v1,v2,v3,v4,v5,v6]) (ko (i:=5) (v:=v5) (cur':=#[v0,v1,v2,v3,v4,v5,o6]) (ko (i:=4) (v:=v4) (cur':=#[v0,v1,v2,v3,v4,o5,o6]) (ko (i:=3) (v:=v3) (cur':=#[v0,v1,v2,v3,o4,o5,o6]) (ko (i:=2) (v:=v2) (cur':=#[v0,v1,v2,o3,o4,o5,o6]) (ko (i:=1) (v:=v1) (cur':=#[v0,v1,o2,o3,o4,o5,o6]) (ko (i:=0) (v:=v0) (cur':=#[v0,o1,o2,o3,o4,o5,o6]) h rfl) rfl) rfl) rfl) rfl) rfl) rfl),((((((((fG.refl _ _).setCell (p:=⟨g,0,I⟩) gm v0).setCell (p:=⟨g,1,I⟩) gm v1).setCell (p:=⟨g,2,I⟩) gm v2).setCell (p:=⟨g,3,I⟩) gm v3).setCell (p:=⟨g,4,I⟩) gm v4).setCell (p:=⟨g,5,I⟩) gm v5).setCell (p:=⟨g,6,I⟩) gm v6)⟩
theorem jb (h:W.heap[g]?=F (U #[o0,o1,o2,o3,o4,o5,o6] e (0,0))) :
  Vg W ⟨g,0,I⟩=F o0/\Vg W ⟨g,1,I⟩=F o1/\Vg W ⟨g,2,I⟩=F o2/\Vg W ⟨g,3,I⟩=F o3/\Vg W ⟨g,4,I⟩=F o4/\Vg W ⟨g,5,I⟩=F o5/\Vg W ⟨g,6,I⟩=F o6/\(∀ j,VE W ⟨g,j,I⟩=M)/\g<W.heap.size:=by
 refine⟨?_,?_,?_,?_,?_,?_,?_,fun j=>by simp[VE,h],(blt h)⟩
 all_goals
  rw[WC W g _ _ _ (0,0) h]
  rfl
theorem zE {v:Value} (hc:Vg U7 ⟨g,i,I⟩=F v)(hg:fy U7 W)(hon:fG S W W')(hn:g∉S):Vg W' ⟨g,i,I⟩=F v:=by
 have hl:=Wf _ _ hc;simp only at hl;obtain⟨os,d,rfl⟩:=hg;exact(hon.cell (Vn hl (fy.of U7 os d).size) hn i).trans (zd hc os d)
theorem BL {gp:Nat} {v u:Value} (hc:Vg W ⟨g,i,I⟩=F v)(hn:g≠gp):(W.setCell ⟨gp,j,I⟩ u).cell? ⟨g,i,I⟩=F v:=by
 have hl:=Wf _ _ hc;simp only at hl;exact(((fG.refl [gp] W).setCell (p:=⟨gp,j,I⟩) gm u).cell hl (by simpa using hn) i).trans hc
theorem Da {o:Obj} (hb:U7.heap[g]?=F o)(hg:fy U7 W)(hon:fG S W W')(hn:g∉S):W'.heap[g]?=F o:=by
 have hl:=(blt hb)
 exact(hon.block g (Vn hl hg.size) hn).trans (zj hb hg)
theorem Ux {c:Nat} {xs:D fX} (h:(qS.sl e).R w B [J A n c] xs){k:Nat}(hk:k<xs.length) :
  ∃ g off x A0 c0,A=F ⟨g,off,I⟩/\g<B/\xs[k]?=F x/\Vg w ⟨g,off+k*7,I⟩=F (C Z x.Op.Code)/\Vg w ⟨g,off+k*7+1,I⟩=F (C Z x.Op.iz)/\Vg w ⟨g,off+k*7+2,I⟩=F (C Z x.fZ)/\Vg w ⟨g,off+k*7+3,I⟩=F (X x.fA)/\Vg w ⟨g,off+k*7+4,I⟩=F (J A0 x.fP.length c0)/\Vg w ⟨g,off+k*7+5,I⟩=F (C Z x.fT)/\Vg w ⟨g,off+k*7+6,I⟩=F (X x.fU)/\fQ x.Op.Code/\fQ x.Op.iz/\fQ x.fZ/\(zv.sl 3).R w B [J A0 x.fP.length c0] x.fP/\fQ x.fT:=by
 obtain⟨g,off,x,ec,h1,hB,h2,h3,h4⟩:=pz h hk;obtain⟨A0,c0,rfl,hf⟩:=TK h3;exact⟨g,off,x,A0,c0,h1,hB,h2,h4 0 _ rfl,h4 1 _ rfl,h4 2 _ rfl,h4 3 _ rfl,h4 4 _ rfl,h4 5 _ rfl,h4 6 _ rfl,hf⟩
theorem Nx:(prog.info? 227).map (fun i=>(i.zero,i.size,i.bytes))=F (F (.agg #[C Z 0,C Z 0,C Z 0,X M,J I 0 0,C Z 0,X M]),7,72):=gU
theorem Uz:iZ prog 232 227 qS 72:=by
 obtain⟨i0,hi,a0,a1,a2⟩:=Xt Nx;exact⟨underlying232,⟨i0,_,hi,a0,a1,a2,rfl⟩,gv⟩
def pm (n:Nat):Ty (D Value) where
 size:=n
 R:=fun _ _ cs x=>cs=x/\x.length=n/\∀ u∈x,u.oneCell'=H
 O:=fun _ cs x S=>cs=x/\x.length=n/\(∀ u∈x,u.oneCell'=H)/\S = []
 mX:=by rintro _ _ _ _ ⟨rfl,h,_⟩;exact h
 kQ:=by rintro _ _ _ _ ⟨rfl,h,_⟩;exact h
 nt:=by rintro _ _ _ _ ⟨rfl,_,h,_⟩;exact h
 nO:=by rintro _ _ _ _ ⟨rfl,_,h⟩;exact h
 jz:=by rintro _ _ _ _ _ _ h _ _;exact h
 iA:=by rintro _ _ _ _ _ h _;exact h
 jQ:=by rintro _ _ _ _ ⟨_,_,_,rfl⟩ k hk;simp at hk
 OR:=by rintro _ _ _ _ _ ⟨h1,h2,h3,_⟩ _;exact⟨h1,h2,h3⟩
theorem Fq (n:Nat):lL (pm n):=fun⟨h1,h2,h3⟩ _=>⟨h1,h2,h3,rfl⟩
theorem PE:(prog.info? 253).map (fun i=>(i.zero,i.size,i.bytes))=F (F (.agg #[C Z 0,J I 0 0,J I 0 0,C Z 0,X M,J I 0 0]),6,96):=gU
theorem Ld:iZ prog 249 253 (pm 6) 96:=by
 obtain⟨i0,hi,a0,a1,a2⟩:=Xt PE;exact⟨underlying249,⟨i0,_,hi,a0,a1,a2,rfl⟩,gv⟩
structure kw where
 E:gw
 b:gP
 A:N VQ
 c:Nat
 g:Nat
 Y:V
structure ji (P:kw)(m:gA)(rows:D (D Value))(W:V)(Ai:N VQ)(ci:Nat)(Si:D Nat)(As:N VQ)(cs:Nat)(Ss:D Nat):Prop where
 box:W.heap[P.g]?=F (U #[J P.A P.E.p.length P.c,C Z P.b.gW,C Z P.E.inl,X P.b.iO,X P.b.ic,X P.E.gT,C Z P.E.fO,C Z m.most,C Z P.E.args,C Z m.fv,J Ai m.fx.length ci,J As rows.length cs,X m.start] 251 (0,0))
 iM:Has (qS.sl 227) W [J Ai m.fx.length ci] m.fx Si
 px:Has ((pm 6).sl 253) W [J As rows.length cs] rows Ss
 lG:∀ b∈Si,b∉Ss
 gn:P.g∉Si/\P.g∉Ss
 fH:fy P.Y W
 low:P.Y.heap.size<=P.g/\(∀ b∈Si,P.Y.heap.size<=b)/\∀ b∈Ss,P.Y.heap.size<=b
def kj (P:kw)(m:gA)(rows:D (D Value))(W:V)(L:D Nat):Prop:=
 ∃ Ai ci Si As cs Ss,ji P m rows W Ai ci Si As cs Ss/\L=P.g::(Si++Ss)
def iv (P:kw)(m':gA)(rows':D (D Value))(W:V)(L:D Nat)(W':V):Prop:=
 ∃ L',kj P m' rows' W' L'/\fG L W W'/\∀ b∈L',b∈L∨W.heap.size<=b
theorem pH {o7 o8 o9 o10 o11 o12:Value} (h:W.heap[g]?=F (U #[o0,o1,o2,o3,o4,o5,o6,o7,o8,o9,o10,o11,o12] e (0,0))) :
  Vg W ⟨g,0,I⟩=F o0/\Vg W ⟨g,1,I⟩=F o1/\Vg W ⟨g,2,I⟩=F o2/\Vg W ⟨g,3,I⟩=F o3/\Vg W ⟨g,4,I⟩=F o4/\Vg W ⟨g,5,I⟩=F o5/\Vg W ⟨g,6,I⟩=F o6/\Vg W ⟨g,7,I⟩=F o7/\Vg W ⟨g,8,I⟩=F o8/\Vg W ⟨g,9,I⟩=F o9/\Vg W ⟨g,10,I⟩=F o10/\Vg W ⟨g,11,I⟩=F o11/\Vg W ⟨g,12,I⟩=F o12/\(∀ j,VE W ⟨g,j,I⟩=M)/\g<W.heap.size:=by
 refine⟨?_,?_,?_,?_,?_,?_,?_,?_,?_,?_,?_,?_,?_,fun j=>by simp[VE,h],(blt h)⟩
 all_goals
  rw[WC W g _ _ _ (0,0) h]
  rfl
theorem fG.then {a b c:V} (h:fG S a b)(k:fG S1 b c)(hs:∀ x∈S1,x∈S∨a.heap.size<=x):fG S a c:=
 ⟨k.os.trans h.os,k.tape.trans h.tape,k.output.trans h.output,VL h.size k.size,fun i hi hn=>(k.block i (Vn hi h.size) (fun hm=>(hs i hm).elim hn (fun hh=>fh))).trans (h.block i hi hn)⟩
theorem kj.jD {P:kw} {m:gA} (h:kj P m rows W L):P.g∈L/\P.g<W.heap.size/\(∀ b∈L,b<W.heap.size)/\(∀ b∈L,P.Y.heap.size<=b)/\fy P.Y W:=by
 obtain⟨Ai,ci,Si,As,cs,Ss,h,rfl⟩:=h;have hg:=(blt h.box)
 refine⟨gm,hg,fun b hb=>?_,fun b hb=>?_,h.fH⟩
 ·rcases VT.1 hb with rfl | hb
  ·exact hg
  ·rcases VA.1 hb with hb | hb
   ·exact h.iM.lt b hb
   ·exact h.px.lt b hb
 ·rcases VT.1 hb with rfl | hb
  ·exact h.low.1
  ·rcases VA.1 hb with hb | hb
   ·exact h.low.2.1 b hb
   ·exact h.low.2.2 b hb
theorem iv.refl {P:kw}{m:gA}{rows:D (D Value)}{W:V}{L:D Nat}(h:kj P m rows W L):iv P m rows W L W:=
 ⟨L,h,fG.refl _ _,fun _ hb=>.inl hb⟩
theorem xK {g:Prop} (f:g:=by
  obtain⟨L2,h2,ho2,hl2⟩:=k
  refine⟨L2,h2,ho.then ho2 hl,fun b hb=>?_⟩
  rcases hl2 b hb with hb | hb
  ·exact hl b hb
  ·exact .inr (VL ho.size hb)):g:=f
theorem iv.trans {P:kw} {m1 m2:gA} {r1 r2:D (D Value)} {W1 W2:V} {L1:D Nat} (_h:kj P m1 r1 W1 L1)(ho:fG L W W1)(hl:∀ b∈L1,b∈L∨W.heap.size<=b)(k:iv P m2 r2 W1 L1 W2):iv P m2 r2 W L W2:=by
 exact xK
theorem kj.fH {P:kw}{m:gA}{rows:D (D Value)}{W W':V}{L:D Nat}(h:kj P m rows W L)(hg:fy W W'):kj P m rows W' L:=by
 obtain⟨Ai,ci,Si,As,cs,Ss,h,rfl⟩:=h;exact⟨Ai,ci,Si,As,cs,Ss,⟨zj h.box hg,h.iM.fH hg,h.px.fH hg,h.lG,h.gn,h.fH.trans hg,h.low⟩,rfl⟩
theorem kj.cells {P:kw} {m:gA} (h:kj P m rows W L):∃ Ai ci As cs,
  Vg W ⟨P.g,0,I⟩=F (J P.A P.E.p.length P.c)/\Vg W ⟨P.g,1,I⟩=F (C Z P.b.gW)/\Vg W ⟨P.g,2,I⟩=F (C Z P.E.inl)/\Vg W ⟨P.g,5,I⟩=F (X P.E.gT)/\Vg W ⟨P.g,6,I⟩=F (C Z P.E.fO)/\Vg W ⟨P.g,7,I⟩=F (C Z m.most)/\Vg W ⟨P.g,8,I⟩=F (C Z P.E.args)/\Vg W ⟨P.g,9,I⟩=F (C Z m.fv)/\Vg W ⟨P.g,10,I⟩=F (J Ai m.fx.length ci)/\Vg W ⟨P.g,11,I⟩=F (J As rows.length cs)/\Vg W ⟨P.g,12,I⟩=F (X m.start)/\(∀ j,VE W ⟨P.g,j,I⟩=M)/\P.g<W.heap.size:=by
 obtain⟨Ai,ci,Si,As,cs,Ss,h,rfl⟩:=h;obtain⟨z0,z1,z2,z3,z4,z5,z6,z7,z8,z9,a0,a1,a2,zf,zl⟩:=pH h.box;exact⟨Ai,ci,As,cs,z0,z1,z2,z5,z6,z7,z8,z9,a0,a1,a2,zf,zl⟩
theorem kj.num {P:kw} {m m':gA} (h:kj P m rows W L){i:Nat}{v:Value}(hi:m'.fx=m.fx)
  (hrow:∀ a b c d e f g x y,(#[a,b,c,d,e,f,g,C Z m.most,C Z P.E.args,C Z m.fv,x,y,X m.start]:Array Value).setIfInBounds i v=#[a,b,c,d,e,f,g,C Z m'.most,C Z P.E.args,C Z m'.fv,x,y,X m'.start]) :
  kj P m' rows (W.setCell ⟨P.g,i,I⟩ v) L/\fG L W (W.setCell ⟨P.g,i,I⟩ v):=by
 obtain⟨Ai,ci,Si,As,cs,Ss,h,rfl⟩:=h;have a0:fG [P.g] W (W.setCell ⟨P.g,i,I⟩ v):=(fG.refl _ _).setCell (p:=⟨P.g,i,I⟩) (by simp) _;refine⟨⟨Ai,ci,Si,As,cs,Ss,⟨ko (i:=i) (v:=v) h.box (by rw[hrow,hi]),?_,?_,h.lG,h.gn,a0.fH h.fH (fun b hb=>by simp at hb;exact hb ▸ h.low.1),h.low⟩,rfl⟩,a0.mono (by simp)⟩
 ·rw[hi]
  exact h.iM.gu a0 (fun x hx hm=>by simp at hm;exact h.gn.1 (hm ▸ hx))
 ·exact h.px.gu a0 (fun x hx hm=>by simp at hm;exact h.gn.2 (hm ▸ hx))
theorem kj.arg {P:kw} {m:gA} (h:kj P m rows W L){j:Nat}{x:fX}(hx:m.fx[j]?=F x) :
  ∃ gi ci,Vg W ⟨P.g,10,I⟩=F (J (F ⟨gi,0,I⟩) m.fx.length ci)/\gi<W.heap.size/\gi≠P.g/\(∀ k,VE W ⟨gi,k,I⟩=M)/\Vg W ⟨gi,j*7+1,I⟩=F (C Z x.Op.iz)/\
   ∀ v,fQ v->kj P (m.jH (mO m.fx j v)) rows (W.setCell ⟨gi,j*7+1,I⟩ (C Z v)) L/\fG L W (W.setCell ⟨gi,j*7+1,I⟩ (C Z v)):=by
 obtain⟨Ai,ci,Si,As,cs,Ss,h,rfl⟩:=h;obtain⟨gi,ec,Sc,rfl,a8,a9,ac,aa,ad,hO,a7,a0,a1,_⟩:=sA h.iM.1 h.iM.2 hx;obtain⟨A0,c0,S0,rfl,a5,b0,b1,b2,a4,b4⟩:=Lz hO;subst a5;have hz:qS.size=7:=rfl;rw[hz] at a0 a1;have a6:=a0 1 _ rfl;obtain⟨z0,z1,z2,z3,z4,z5,z6,z7,z8,z9,ab,ae,af,zf,zl⟩:=pH h.box;refine⟨gi,ci,ab,a9,fun e=>h.gn.1 (e ▸ a8),a7,a6,fun v hv=>?_⟩;have hp:=a1 1 (C Z v) { x with Op:=⟨x.Op.Code,v⟩ } (by decide) rfl (Fh (x:={ x with Op:=⟨x.Op.Code,v⟩ }) A0 c0 Sc b0 hv b2 a4 b4);have a2:mO m.fx j v=m.fx.set j { x with Op:=⟨x.Op.Code,v⟩ }:=by unfold mO;rw[hx]
 have a3:(m.fx.set j { x with Op:=⟨x.Op.Code,v⟩ }).length=m.fx.length:=VY ..;refine⟨⟨F ⟨gi,0,I⟩,ci,Si,As,cs,Ss,⟨?_,?_,h.px.gu hp.2 (fun b hb hm=>h.lG b hm hb),h.lG,h.gn,hp.2.fH h.fH h.low.2.1,h.low⟩,rfl⟩,hp.2.mono (fun b hb=>by simp[hb])⟩
 ·have hm:=(hp.2.block P.g (blt h.box) h.gn.1).trans h.box
  simp only[gA.jH,a2,a3];exact hm
 ·simp only[gA.jH,a2,a3]
  exact⟨hp.1,h.iM.2⟩
theorem LV {c:Nat} {xs:D (D Value)} {r:D Value} (h:Has ((pm n).sl e) W [J A xs.length c] xs S)(hr:xs[k]?=F r) :
  ∃ g,A=F ⟨g,0,I⟩/\g∈S/\g<W.heap.size/\(∀ j,VE W ⟨g,j,I⟩=M)/\r.length=n/\(∀ j u,r[j]?=F u->Vg W ⟨g,k*n+j,I⟩=F u)/\
   ∀ j u,j<n->u.oneCell'=H->Has ((pm n).sl e) (W.setCell ⟨g,k*n+j,I⟩ u) [J A xs.length c] (xs.set k (r.set j u)) S/\fG S W (W.setCell ⟨g,k*n+j,I⟩ u):=by
 obtain⟨g,ec,Sc,rfl,a3,a4,a6,a5,a7,hO,a2,a0,a1,_⟩:=sA h.1 h.2 hr;obtain⟨rfl,hl,ho,rfl⟩:=hO;refine⟨g,rfl,a3,a4,a2,hl,fun j u hu=>a0 j u hu,fun j u hj hu=>?_⟩;have hp:=a1 j u (ec.set j u) hj hu ⟨rfl,by rw[VY];exact hl,fun v hv=>?_,rfl⟩
 ·exact⟨⟨hp.1,h.2⟩,hp.2⟩
 ·rcases Xg hv with hv | rfl
  ·exact ho v hv
  ·exact hu
theorem wM {g:Prop} (f:g:=by
  obtain⟨A',c',h1,h2,h3,h4,h5⟩:=h
  injection h1 with h1 h1'
  injection h1 with hA hn hc
  subst hA hc hn
  refine⟨A,c,rfl,h2,h3,h4,fun hp=>?_⟩
  obtain⟨g,off,rfl,hg,h6⟩:=h5 hp
  refine⟨g,off,rfl,by have:=hs.size;omega,fun i x hx=>?_⟩
  obtain⟨ec,hR,hc⟩:=h6 i x hx
  exact⟨ec,T.read (hf hR W'),fun j u hu=>(hs.cell hg (by simpa using hk _ rfl) _).trans (hc j u hu)⟩):g:=f
theorem tm {α:Type} {T:Ty α} (hf:lL T){e:Wl}{W W':V}{k:Nat}{A:N VQ}{n c:Nat}{xs:D α}(h:(T.sl e).R W W.heap.size [J A n c] xs)(hs:fG [k] W W')(hk:∀ ad,A=F ad->ad.block≠k):(T.sl e).R W' W'.heap.size [J A n c] xs:=by
 exact wM
structure nc (W:V)(k:Nat)(A0:N VQ)(c0:Nat)(vars:D G)(A1:N VQ)(c1:Nat)(names:D G)(A2:N VQ)(c2:Nat)(ars:D Int):Prop where
 v:(jB.sl 9).R W W.heap.size [J A0 vars.length c0] vars
 n:(jB.sl 9).R W W.heap.size [J A1 names.length c1] names
 a:(zv.sl 3).R W W.heap.size [J A2 ars.length c2] ars
 kv:∀ ad,A0=F ad->ad.block≠k
 kn:∀ ad,A1=F ad->ad.block≠k
 ka:∀ ad,A2=F ad->ad.block≠k
 len:names.length=ars.length
 ar:∀ a∈ars,0<=a/\a<=2
 lv:vars.length<=1000
 ln:names.length<=1000
variable {k:Nat} {A0:N VQ} {c0:Nat} {vars:D G} {A1:N VQ} {c1:Nat} {names:D G} {A2:N VQ} {c2:Nat} {ars:D Int}
theorem nc.only (h:nc W k A0 c0 vars A1 c1 names A2 c2 ars)(hs:fG [k] W W'):nc W' k A0 c0 vars A1 c1 names A2 c2 ars:=
 ⟨tm ng h.v hs h.kv,tm ng h.n hs h.kn,tm zI h.a hs h.ka,h.kv,h.kn,h.ka,h.len,h.ar,h.lv,h.ln⟩
theorem nc.fH (h:nc W k A0 c0 vars A1 c1 names A2 c2 ars)(hg:fy W W'):nc W' k A0 c0 vars A1 c1 names A2 c2 ars:=h.only (hg.only _)
def pv (n:Nat):Nat:=if n<=1 then 1 else if n<=3 then 3 else 7
theorem SM (h:2<n)(h6:n<=6):1+pv (n / 2)+pv (n / 2)<=pv n:=by
 have:n=3∨n=4∨n=5∨n=6:=fh;rcases this with rfl | rfl | rfl | rfl <;> decide
theorem RL (h:1<n)(h6:n<=6):1+2*pv (n / 4)<=pv n:=by
 have:n=2∨n=3∨n=4∨n=5∨n=6:=fh;rcases this with rfl | rfl | rfl | rfl | rfl <;> decide
theorem Dr (n:Nat):1<=pv n/\pv n<=7:=by unfold pv;split <;> (try split) <;> omega
def rc (w W:V)(k m:Nat)(e:Z9)(W':V):Prop:=∃ A c out S,e=.returned (J A out.length c)/\out.length<=m/\jI w W' k/\fG [k] W W'/\Has (jY.sl 160) W' [J A out.length c] out S/\∀ b∈S,W.heap.size<=b
structure iJ {α:Type}(T:Ty α)(t:Wl)(w W0 W:V)(k:Nat)(A:N VQ)(n c:Nat)(out:D α)(S:D Nat):Prop where
 cur:jI w W k
 only:fG [k] W0 W
 has:Has (T.sl t) W [J A n c] out S
 lo:∀ b∈S,W0.heap.size<=b
 yj:k<W0.heap.size
 len:n=out.length
section
variable {α:Type} {T:Ty α} {t:Wl} {w W0 W W':V} {k:Nat} {A:N VQ} {n c:Nat} {out:D α} {S:D Nat}
theorem iJ.Bc (h:iJ T t w W0 W k A n c out S):k∉S:=fun hm=>by have:=h.lo k hm;have:=h.yj;omega
theorem iJ.fH (h:iJ T t w W0 W k A n c out S)(hg:fy W W'):iJ T t w W0 W' k A n c out S:=
 ⟨h.cur.more hg,h.only.trans (hg.only _),h.has.fH hg,h.lo,h.yj,h.len⟩
theorem iJ.call (h:iJ T t w W0 W k A n c out S)(hs:fG [k] W W')(hC:jI w W' k):iJ T t w W0 W' k A n c out S:=
 ⟨hC,h.only.trans hs,h.has.gu hs (fun b hb hm=>by simp only[Vi] at hm;subst hm;exact h.Bc hb),h.lo,h.yj,h.len⟩
theorem iJ.next {L:Nat} {out':D α} {Sy:D Nat} (h:iJ T t w W0 W k A n c out S)(hon:fG S W W')(hH:Has (T.sl t) W' [J A' L c'] out' S')(hS:∀ b∈S',b∈S∨b∈Sy∨W.heap.size<=b)(hSy:∀ b∈Sy,W0.heap.size<=b)(hL:L=out'.length):iJ T t w W0 W' k A' L c' out' S':=
 ⟨h.cur.only hon h.Bc (fun b hb=>by have:=h.lo b hb;have:=h.yj;have:=h.cur.lo;omega),h.only.then hon (fun x hx=>.inr (h.lo x hx)),hH,fun b hb=>by
  rcases hS b hb with h1 | h1 | h1
  ·exact h.lo b h1
  ·exact hSy b h1
  ·have:=h.only.size;omega,h.yj,hL⟩
theorem iJ.sX {L:Nat} {out':D α} (h:iJ T t w W0 W k A n c out S)(hon:fG S W W')(hH:Has (T.sl t) W' [J A' L c'] out' S')(hS:∀ b∈S',b∈S∨W.heap.size<=b)(hL:L=out'.length):iJ T t w W0 W' k A' L c' out' S':=
 h.next (Sy:=[]) hon hH (fun b hb=>(hS b hb).elim .inl (fun h=>.inr (.inr h))) (fun b hb=>by cases hb) hL
theorem iJ.one (hf:lL T){ec:D Value}{x:α}{g:Nat}(hR:∀ W1,T.R W1 0 ec x)(hC:jI w W k)(hs:fG [k] W0 W)(hk:k<W0.heap.size)(hg:g=W.heap.size):∃ S,iJ T t w W0 (W.alloc (U ec.toArray t)) k (F ⟨g,0,I⟩) 1 1 [x] S:=by
 obtain⟨S3,a1,a2⟩:=(JZ (T:=T) (e:=t) hf (W0:=W) (W:=W) (W1:=W) (B:=0) (hR W) (fy.refl _) hg).has;have a0:fy W (W.alloc (U ec.toArray t)):=gG;exact⟨S3,hC.more a0,hs.trans (a0.only _),a1,fun b hb=>by have:=a2 b hb;have:=hs.size;omega,hk,rfl⟩
end
theorem rc.of {W0:V} {c:Nat} {out:D iq} {e:Z9} (h:iJ jY 160 w W0 W k A n c out S)(hm:n<=m)(he:e=.returned (J A n c)):rc w W0 k m e W:=by
 obtain rfl:=h.len;exact⟨A,c,out,S,he,hm,h.cur,h.only,h.has,h.lo⟩
theorem FW {cs:Array Value} (xs:D Int)(hcs:cs.toList=xs.map (C Z))(hn:n=xs.length)(hg:g=W.heap.size)(hb:∀ x∈xs,fQ x)(hl:xs.length<=1000):(zv.sl e).R (W.alloc (U cs e)) (W.alloc (U cs e)).heap.size [J (F ⟨g,0,I⟩) n n] xs:=by
 subst hn hg;have a0:=Vj W (U cs e);refine⟨_,_,rfl,Vz _,fh,gm,fun _=>⟨_,0,rfl,gm,fun i x hx=>⟨[C Z x],⟨rfl,hb x (Vx hx)⟩,fun j u hu=>?_⟩⟩⟩
 obtain⟨rfl,rfl⟩:j=0/\u=C Z x:=by
  match j,hu with
  | 0,hu=>exact⟨rfl,by simpa using hu.symm⟩
  | j+1,hu=>simp at hu
 rw[WC _ _ _ _ _ _ a0];simp only[show zv.size=1 from rfl,Xo,Wk,VJ];rw[<-Array.getElem?_toList,hcs,Xw,hx];rfl
theorem zh5 (hC:jI w W k)(n:Int)(hn:0<n)(hn2:n<=1099511627776):VK prog 103 #[.pointer (F ⟨k,0,I⟩),C Z n] W fun e W'=>∃ b:Bool,e=.returned (X b)/\jI w W' k/\fG [k] W W':=by
 go_enter func103,ntmps103;go_wp2_with(go_at_call 36;refine(pT hC n hn hn2).mono ?_;rintro e W1 ⟨x,rfl,hx,a0,a1⟩);go_ret;exact⟨_,rfl,a0,a1⟩
theorem zsy:∀(n:Nat),n<=6->∀(m:Int),m=(n:Int)->∀{w W:V}{k:Nat}{A0:N VQ}{c0:Nat}{vars:D G}{A1:N VQ}{c1:Nat}{names:D G}{A2:N VQ}{c2:Nat}{ars:D Int}(_:jI w W k)(_:nc W k A0 c0 vars A1 c1 names A2 c2 ars),
  VK prog 187 #[.pointer (F ⟨k,0,I⟩),C Z m,J A0 vars.length c0,J A1 names.length c1,J A2 ars.length c2] W (rc w W k (pv n)):=by
 intro n;induction n using Nat.strongRecOn with
 | _ n ih=>
 rintro hn m rfl w W k A0 c0 vars A1 c1 names A2 c2 ars hC hI;have IH:=fk ih;clear ih;go_enter func187,ntmps187;go_upto_region 2 with(go_at_call 36;refine(pT hC 10 gv gv).mono ?_;rintro e W1 ⟨x,rfl,hx,a9,a3⟩);have aR:=hI.only a3;go_cut [18] from 19 to 25 (fun v wx=>v=X (decide (2<n/\x<5))/\W1=wx)
 case first=>
  by_cases a5:2<n
  ·have ay:(2:Int)<(n:Int):=fh
   by_cases ac:x<5
   ·have aB:(x:Int)<5:=fh
    have HD:=fk (show H=decide (2<n/\x<5) from(Vv ⟨a5,ac⟩).symm);clear a5 ac;go_wp2_with(fail);go_meet;exact⟨by rw[<-HD.out],rfl⟩
   ·have aB:¬ ((x:Int)<5):=fh
    have HD:=fk (show M=decide (2<n/\x<5) from(Vp (fun h=>ac h.2)).symm);clear a5 ac;go_wp2_with(fail);go_meet;exact⟨by rw[<-HD.out],rfl⟩
  ·have ay:¬ ((2:Int)<(n:Int)):=fh
   have HD:=fk (show M=decide (2<n/\x<5) from(Vp (fun h=>a5 h.1)).symm);clear a5;go_wp2_with(fail);go_meet;exact⟨by rw[<-HD.out],rfl⟩
 obtain⟨rfl,rfl⟩:=hcut;by_cases hbin:2<n/\x<5
 ·have HB:=fk (Vv hbin)
  rw[Vv hbin];obtain⟨a5,ac⟩:=hbin;have hq:Vl Z (Int.tdiv (n:Int) 2)=((n / 2:Nat):Int):=by rw[Y8 fh];exact(iw).trans fh
  have b2:=SM a5 hn;have aE:n / 2<n:=fh;have aD:n / 2<=6:=fh;have ba:=Dr n;go_upto_region 4 with(go_at_call 36;refine(pT a9 5 gv gv).mono ?_;rintro e W2 ⟨y,rfl,hy,a2,a1⟩;have bd:Vl Z (2+(y:Int))=2+(y:Int):=iw);obtain⟨S3,h3⟩:=iJ.one (t:=160) rW (ec:=[C Z (2+(y:Int)),C Z 0,Q { data:=#[] }]) (x:=⟨2+(y:Int),0,{ data:=#[] }⟩) (fun W=>uX (x:=⟨2+(y:Int),0,{ data:=#[] }⟩) ⟨by simp only;omega,by simp only;omega⟩ ⟨by simp only;omega,by simp only;omega⟩ (by simp only;decide)) a2 (a3.trans a1) hC.lt rfl;generalize hY:W2.alloc _=Y at h3 |-;have h4:=h3
  go_upto_region 5 with(first
   | (go_at_call 187;refine(IH.out (n / 2) aE aD ((n:Int) / 2) fh h3.cur (hI.only h3.only)).mono ?_;rintro e W4 ⟨B4,d4,o4,S4,rfl,b9,aO,aT,aP,b4⟩;have h4:=h3.call aT aO)
   | (refine yZ (L:=1+o4.length) rfl (.tmp 30) (.tmp 37) BY rW h4.has aP.read rfl rfl rfl rfl fh fh ?_;intro B5 d5 W5 S5 aA aQ aU;have h5:=h4.sX aA aQ aU (by simp;omega)))
  have h6:=h5
  go_wp2_with(first
   | (go_at_call 187;refine(IH.out (n / 2) aE aD ((n:Int) / 2) fh h5.cur (hI.only h5.only)).mono ?_;rintro e W6 ⟨B6,d6,o6,S6,rfl,b3,al,ap,am,aw⟩;have h6:=h5.call ap al)
   | (refine yZ (L:=1+o4.length+o6.length) rfl (.tmp 39) (.tmp 46) BY rW h6.has am.read rfl rfl rfl rfl fh fh ?_;intro B7 d7 W7 S7 a8 an aq;have h7:=h6.sX a8 an aq (by simp;omega)))
  go_ret;exact .of h7 fh rfl
 ·rw[Vp hbin]
  clear hbin;go_upto_region 6 with(fail);go_cut [48] from 49 to 60 (fun v wx=>v=X (decide (0<names.length/\1<n/\x<8))/\W1=wx)
  case first=>
   by_cases a6:0<names.length
   ·have az:(0:Int)<(names.length:Int):=fh
    by_cases a4:1<n
    ·have ax:(1:Int)<(n:Int):=fh
     by_cases ae:x<8
     ·have aC:(x:Int)<8:=fh
      have HD:=fk (show H=decide (0<names.length/\1<n/\x<8) from(Vv ⟨a6,a4,ae⟩).symm);clear a6 a4 ae;go_wp2_with(fail);go_meet;exact⟨by rw[<-HD.out],rfl⟩
     ·have aC:¬ ((x:Int)<8):=fh
      have HD:=fk (show M=decide (0<names.length/\1<n/\x<8) from(Vp (fun h=>ae h.2.2)).symm);clear a6 a4 ae;go_wp2_with(fail);go_meet;exact⟨by rw[<-HD.out],rfl⟩
    ·have ax:¬ ((1:Int)<(n:Int)):=fh
     have HD:=fk (show M=decide (0<names.length/\1<n/\x<8) from(Vp (fun h=>a4 h.2.1)).symm);clear a6 a4;go_wp2_with(fail);go_meet;exact⟨by rw[<-HD.out],rfl⟩
   ·have az:¬ ((0:Int)<(names.length:Int)):=fh
    have HD:=fk (show M=decide (0<names.length/\1<n/\x<8) from(Vp (fun h=>a6 h.1)).symm);clear a6;go_wp2_with(fail);go_meet;exact⟨by rw[<-HD.out],rfl⟩
  obtain⟨rfl,rfl⟩:=hcut;by_cases hcall:0<names.length/\1<n/\x<8
  ·rw[Vv hcall]
   obtain⟨a6,a4,ae⟩:=hcall;go_upto_region 8 with(go_at_call 36;(with_reducible refine(pT a9 (names.length:Int) fh (by have:=hI.ln;omega)).mono ?_);rintro e W2 ⟨y,rfl,hy,a2,a1⟩);have aa:=hI.only (a3.trans a1);have ah:y<names.length:=fh;obtain⟨g2,o2,a,aN,au,aY,aW,aX⟩:=ma aa.a (k:=y) (by rw[<-aa.len];exact ah);obtain⟨g1,o1,nm,aM,aH,aG,a7⟩:=yG aa.n ah;obtain⟨aV,b8⟩:=aa.ar a (Vx au);obtain⟨av,rfl⟩:=VI aV;have hq:Vl Z (Int.tdiv (n:Int) 4)=(n:Int) / 4:=by rw[Y8 fh];exact iw
   have b2:=RL a4 hn;have aK:n / 4<n:=fh;have aJ:n / 4<=6:=fh;have bb:=Dr (n / 4);have be:(y:Int)<(ars.length:Int):=by rw[<-aa.len];exact_mod_cast ah
   have ao:=a3.trans a1;subst aN aM;go_region_held3 (fun w'=>Vg w' ⟨g2,o2+y,I⟩=F (C Z (av:Int))/\Vg w' ⟨g1,o1+y,I⟩=F (Q nm)) ((repeat' apply Vm) <;> ((repeat (first | with_reducible assumption | with_reducible refine zd ?_ _ _ | with_reducible refine zq ?_ _ | with_reducible refine zc ?_ | with_reducible refine ow ?_ _));done)) (fail)
   all_goals go_wp2_with(fail)
   obtain⟨S3,h3⟩:=iJ.one (t:=160) rW (ec:=[C Z 7,C Z (av:Int),Q nm]) (x:=⟨7,(av:Int),nm⟩) (fun W=>uX (x:=⟨7,(av:Int),nm⟩) ⟨by simp only;omega,by simp only;omega⟩ ⟨by simp only;omega,by simp only;omega⟩ a7) a2 ao hC.lt rfl;have h3:=h3.fH ((fy.refl _).drew);generalize (W2.alloc _).drew=Y at h3 |-;have HA:=fk au;clear au aH aY aG;go_loopw [14,15] (fun o i wr=>∃(j af:Nat) (ai:N VQ) (aj:Nat) (out:D iq) (S:D Nat),o=J ai af aj/\i=C Z j/\j<=av/\af<=1+j*pv (n / 4)/\Hid (iJ jY 160 w W wr k ai af aj out S)) (fun _ i _=>av-(Wj i).toNat)
   case atStart=>exact⟨0,1,_,1,_,S3,rfl,rfl,Vu _,fh,fk h3⟩
   clear h3;obtain⟨j,af,ai,aj,out,S,rfl,rfl,hj,b5,HG⟩:=hrel;have h5:=HG.out;have aF:=hI.only h5.only;obtain⟨b7,bf,a',a0,ab,aZ,_,_⟩:=ma aF.a (k:=y) (by rw[<-hI.len];exact ah);injection a0 with a0
   injection a0 with a0 hA3'
   subst a0 hA3'
   obtain rfl:a'=(av:Int):=by
    have:=HA.out;rw[ab] at this;injection this
   clear ab;by_cases hlt:j<av
   ·have b0:(j:Int)<(av:Int):=fh
    have bc:Vl Z ((j:Int)+1)=(j:Int)+1:=iw
    have b1:j*pv (n / 4)<=14:=by
     have:j<=1:=fh;rcases(show j=0∨j=1 from fh) with rfl | rfl <;> omega
    have h6:=h5
    go_wp2_with(first
     | (go_at_call 187;refine(IH.out (n / 4) aK aJ ((n:Int) / 4) fh h5.cur aF).mono ?_;rintro e W6 ⟨B6,d6,o6,S6,rfl,b3,al,ap,am,aw⟩;have h6:=h5.call ap al)
     | (refine yZ (L:=af+o6.length) rfl (.tmp 82) (.tmp 89) BY rW h6.has am.read rfl rfl rfl rfl fh fh ?_;intro B7 d7 W7 S7 a8 an aq;have h7:=h6.sX a8 an aq (by rw[Vk,<-h6.len])))
    go_roundw;exact⟨j+1,_,B7,d7,_,S7,rfl,io,fh,by rw[Yi];omega,fk h7⟩;exact iC
   ·obtain rfl:j=av:=fh
    have b0:¬ ((j:Int)<(j:Int)):=fh;have b1:j*pv (n / 4)<=2*pv (n / 4):=Xf _ fh;go_wp2_with(fail);go_ret;exact .of h5 fh rfl
  ·rw[Vp hcall]
   clear hcall;go_upto_region 14 with(fail);go_cut [92] from 93 to 100 (fun v wx=>∃ b:Bool,v=X b/\jI w wx k/\fG [k] W wx/\(b=H->0<vars.length))
   case first=>
    by_cases hv:0<vars.length
    ·have aI:(0:Int)<(vars.length:Int):=fh
     go_wp2_with(go_at_call 103;refine(zh5 a9 2 gv gv).mono ?_;rintro e W2 ⟨b,rfl,a2,a1⟩);go_meet;exact⟨b,rfl,a2,a3.trans a1,fun _=>hv⟩
    ·have aI:¬ ((0:Int)<(vars.length:Int)):=fh
     go_wp2_with(fail);go_meet;exact⟨M,rfl,a9,a3,fun h=>by cases h⟩
   obtain⟨b,rfl,a2,a1,hb⟩:=hcut;clear aR a9 a3;rename_i W2;cases b with
   | true=>
    have hv:=hb rfl;have aI:(0:Int)<(vars.length:Int):=fh;go_wp2_with(go_at_call 36;(with_reducible refine(pT a2 (vars.length:Int) fh (by have:=hI.lv;omega)).mono ?_);rintro e W3 ⟨z,rfl,hz,ak,ag⟩;obtain⟨g0,o0,nm,aL,aH,aG,a7⟩:=yG (hI.only (a1.trans ag)).v (k:=z) fh;subst aL);obtain⟨S4,h4⟩:=iJ.one (t:=160) rW (ec:=[C Z 1,C Z 0,Q nm]) (x:=⟨1,0,nm⟩) (fun W=>uX (x:=⟨1,0,nm⟩) ⟨by simp only;omega,by simp only;omega⟩ ⟨by simp only;omega,by simp only;omega⟩ a7) ak (a1.trans ag) hC.lt rfl;go_ret;exact .of h4 (Dr n).1 rfl
   | false=>
    clear hb;have aS:∀ x∈[0,1,2,3,10,999],fQ x:=by intro x hx;simp at hx;rcases hx with rfl | rfl | rfl | rfl | rfl | rfl <;> exact⟨gv,gv⟩
    go_upto_region 16 with(fail);go_wp2_with(fail);refine(zta (a2.more gG) (FW [0,1,2,3,10,999] rfl rfl gm aS gv) (fun ad h=>by injection h with h;subst h;have:=a2.lt;simp;omega) gv gv).mono ?_;rintro e W3 ⟨z,rfl,hz,ak,ag⟩;go_wp2_with(fail)
    have b6:fQ z:=by
     have:z=0∨z=1∨z=2∨z=3∨z=10∨z=999:=by simpa using hz
     rcases this with rfl | rfl | rfl | rfl | rfl | rfl <;> exact⟨gv,gv⟩
    obtain⟨S4,h4⟩:=iJ.one (t:=160) rW (ec:=[C Z 0,C Z z,Q { data:=#[] }]) (x:=⟨0,z,{ data:=#[] }⟩) (fun W=>uX (x:=⟨0,z,{ data:=#[] }⟩) ⟨by simp only;omega,by simp only;omega⟩ b6 (by simp only;decide)) ak (a1.trans ((fy.only gG _).trans ag)) hC.lt rfl;go_ret;exact .of h4 (Dr n).1 rfl
theorem PL (h0:fQ x.fC)(h1:x.fJ.size<=9223372036854775807)(h2:(jB.sl 9).O w [J A0 x.gD.length c0] x.gD S2)(h3:(jY.sl 160).O w [J A1 x.Expr.length c1] x.Expr S3):zS.O w [C Z x.fC,Q x.fJ,J A0 x.gD.length c0,J A1 x.Expr.length c1] x (S2++S3):=by
 have h:zS.O w [C Z x.fC,Q x.fJ,J A0 x.gD.length c0,J A1 x.Expr.length c1] x ([]++([]++(S2++S3))):=⟨[C Z x.fC],[Q x.fJ,J A0 x.gD.length c0,J A1 x.Expr.length c1],[],([]++(S2++S3)),rfl,rfl,⟨rfl,h0.1,h0.2,rfl⟩,⟨[Q x.fJ],[J A0 x.gD.length c0,J A1 x.Expr.length c1],[],(S2++S3),rfl,rfl,⟨rfl,h1,rfl⟩,⟨[J A0 x.gD.length c0],[J A1 x.Expr.length c1],S2,S3,rfl,rfl,h2,h3⟩⟩⟩
 simpa using h
theorem nA {c:Nat} {xs:D fB} (h:(zS.sl e).R w B [J A n c] xs){k:Nat}(hk:k<xs.length) :
  ∃ g off x A0 c0 A1 c1,A=F ⟨g,off,I⟩/\g<B/\xs[k]?=F x/\Vg w ⟨g,off+k*4,I⟩=F (C Z x.fC)/\Vg w ⟨g,off+k*4+1,I⟩=F (Q x.fJ)/\Vg w ⟨g,off+k*4+2,I⟩=F (J A0 x.gD.length c0)/\Vg w ⟨g,off+k*4+3,I⟩=F (J A1 x.Expr.length c1)/\fQ x.fC/\x.fJ.size<=9223372036854775807/\(jB.sl 9).R w B [J A0 x.gD.length c0] x.gD/\(jY.sl 160).R w B [J A1 x.Expr.length c1] x.Expr:=by
 obtain⟨g,off,x,ec,h1,hB,h2,h3,h4⟩:=pz h hk;obtain⟨A0,c0,A1,c1,rfl,hf⟩:=TM h3;exact⟨g,off,x,A0,c0,A1,c1,h1,hB,h2,h4 0 _ rfl,h4 1 _ rfl,h4 2 _ rfl,h4 3 _ rfl,hf⟩
theorem Ny:(prog.info? 99).map (fun i=>(i.zero,i.size,i.bytes))=F (F (.agg #[C Z 0,Q ⟨#[]⟩,J I 0 0,J I 0 0]),4,72):=gU
theorem pg:iZ prog 24 99 zS 72:=by
 obtain⟨i0,hi,a0,a1,a2⟩:=Xt Ny;exact⟨underlying24,⟨i0,_,hi,a0,a1,a2,rfl⟩,gv⟩
structure iF where
 fA:Int
 iD:Int
 Frame:Bool
 fT:Int
 deriving DecidableEq
def mh:Ty iF:=(zv.prod (zv.prod (BZ.prod zv))).via fun x=>(x.fA,x.iD,x.Frame,x.fT)
theorem TO {x:iF} (h:mh.R w B cs x):cs = [C Z x.fA,C Z x.iD,X x.Frame,C Z x.fT]/\fQ x.fA/\fQ x.iD/\fQ x.fT:=by
 obtain⟨_,_,rfl,⟨rfl,a1,a3⟩,⟨_,_,rfl,⟨rfl,a4,a5⟩,⟨_,_,rfl,rfl,⟨rfl,a0,a2⟩⟩⟩⟩:=h;exact⟨rfl,⟨a1,a3⟩,⟨a4,a5⟩,⟨a0,a2⟩⟩
theorem Eb {x:iF} (h0:fQ x.fA)(h1:fQ x.iD)(h2:fQ x.fT):mh.R w B [C Z x.fA,C Z x.iD,X x.Frame,C Z x.fT] x:=by
 exact⟨[C Z x.fA],[C Z x.iD,X x.Frame,C Z x.fT],rfl,⟨rfl,h0.1,h0.2⟩,⟨[C Z x.iD],[X x.Frame,C Z x.fT],rfl,⟨rfl,h1.1,h1.2⟩,⟨[X x.Frame],[C Z x.fT],rfl,rfl,⟨rfl,h2.1,h2.2⟩⟩⟩⟩
theorem TN {x:iF} (h:mh.O w cs x S):cs = [C Z x.fA,C Z x.iD,X x.Frame,C Z x.fT]/\S = []/\fQ x.fA/\fQ x.iD/\fQ x.fT:=by
 obtain⟨_,_,_,_,rfl,rfl,⟨rfl,a1,a3,rfl⟩,⟨_,_,_,_,rfl,rfl,⟨rfl,a4,a5,rfl⟩,⟨_,_,_,_,rfl,rfl,⟨rfl,rfl⟩,⟨rfl,a0,a2,rfl⟩⟩⟩⟩:=h;exact⟨rfl,rfl,⟨a1,a3⟩,⟨a4,a5⟩,⟨a0,a2⟩⟩
theorem Rb {x:iF} (h0:fQ x.fA)(h1:fQ x.iD)(h2:fQ x.fT):mh.O w [C Z x.fA,C Z x.iD,X x.Frame,C Z x.fT] x ([]):=by
 exact⟨[C Z x.fA],[C Z x.iD,X x.Frame,C Z x.fT],[],([]++([]++[])),rfl,rfl,⟨rfl,h0.1,h0.2,rfl⟩,⟨[C Z x.iD],[X x.Frame,C Z x.fT],[],([]++[]),rfl,rfl,⟨rfl,h1.1,h1.2,rfl⟩,⟨[X x.Frame],[C Z x.fT],[],[],rfl,rfl,⟨rfl,rfl⟩,⟨rfl,h2.1,h2.2,rfl⟩⟩⟩⟩
structure jk where
 fN:Int
 fZ:Int
 fA:Bool
 deriving DecidableEq
def nk:Ty jk:=(zv.prod (zv.prod BZ)).via fun x=>(x.fN,x.fZ,x.fA)
theorem UI {x:jk} (h:nk.R w B cs x):cs = [C Z x.fN,C Z x.fZ,X x.fA]/\fQ x.fN/\fQ x.fZ:=by
 obtain⟨_,_,rfl,⟨rfl,a0,a1⟩,⟨_,_,rfl,⟨rfl,a2,a3⟩,rfl⟩⟩:=h;exact⟨rfl,⟨a0,a1⟩,⟨a2,a3⟩⟩
theorem Ku {x:jk} (h0:fQ x.fN)(h1:fQ x.fZ):nk.R w B [C Z x.fN,C Z x.fZ,X x.fA] x:=by
 exact⟨[C Z x.fN],[C Z x.fZ,X x.fA],rfl,⟨rfl,h0.1,h0.2⟩,⟨[C Z x.fZ],[X x.fA],rfl,⟨rfl,h1.1,h1.2⟩,rfl⟩⟩
structure gL where
 fA:Int
 iD:Int
 gJ:Int
 fZ:Int
 fJ:G
 deriving DecidableEq
def mc:Ty gL:=(zv.prod (zv.prod (zv.prod (zv.prod jB)))).via fun x=>(x.fA,x.iD,x.gJ,x.fZ,x.fJ)
theorem Q9 {x:gL} (h:mc.R w B cs x):cs = [C Z x.fA,C Z x.iD,C Z x.gJ,C Z x.fZ,Q x.fJ]/\fQ x.fA/\fQ x.iD/\fQ x.gJ/\fQ x.fZ/\x.fJ.size<=9223372036854775807:=by
 obtain⟨_,_,rfl,⟨rfl,a1,a3⟩,⟨_,_,rfl,⟨rfl,a7,a8⟩,⟨_,_,rfl,⟨rfl,a0,a2⟩,⟨_,_,rfl,⟨rfl,a4,a6⟩,⟨rfl,a5⟩⟩⟩⟩⟩:=h;exact⟨rfl,⟨a1,a3⟩,⟨a7,a8⟩,⟨a0,a2⟩,⟨a4,a6⟩,a5⟩
theorem Im {x:gL} (h0:fQ x.fA)(h1:fQ x.iD)(h2:fQ x.gJ)(h3:fQ x.fZ)(h4:x.fJ.size<=9223372036854775807):mc.R w B [C Z x.fA,C Z x.iD,C Z x.gJ,C Z x.fZ,Q x.fJ] x:=by
 exact⟨[C Z x.fA],[C Z x.iD,C Z x.gJ,C Z x.fZ,Q x.fJ],rfl,⟨rfl,h0.1,h0.2⟩,⟨[C Z x.iD],[C Z x.gJ,C Z x.fZ,Q x.fJ],rfl,⟨rfl,h1.1,h1.2⟩,⟨[C Z x.gJ],[C Z x.fZ,Q x.fJ],rfl,⟨rfl,h2.1,h2.2⟩,⟨[C Z x.fZ],[Q x.fJ],rfl,⟨rfl,h3.1,h3.2⟩,⟨rfl,h4⟩⟩⟩⟩⟩
structure iB where
 Id:Int
 fq:D fR
 gY:D iF
 gz:D jk
 gk:D gL
 deriving DecidableEq
def og:Ty iB:=(zv.prod ((kr.sl 137).prod ((mh.sl 205).prod ((nk.sl 216).prod (mc.sl 214))))).via fun x=>(x.Id,x.fq,x.gY,x.gz,x.gk)
theorem KK {x:iB} (h:og.R w B cs x):∃ A0 c0 A1 c1 A2 c2 A3 c3,cs = [C Z x.Id,J A0 x.fq.length c0,J A1 x.gY.length c1,J A2 x.gz.length c2,J A3 x.gk.length c3]/\fQ x.Id/\(kr.sl 137).R w B [J A0 x.fq.length c0] x.fq/\(mh.sl 205).R w B [J A1 x.gY.length c1] x.gY/\(nk.sl 216).R w B [J A2 x.gz.length c2] x.gz/\(mc.sl 214).R w B [J A3 x.gk.length c3] x.gk:=by
 obtain⟨_,_,rfl,⟨rfl,a4,a5⟩,⟨_,_,rfl,a1,⟨_,_,rfl,a2,⟨_,_,rfl,a3,a0⟩⟩⟩⟩:=h;obtain⟨A0,c0,rfl,_⟩:=id a1;obtain⟨A1,c1,rfl,_⟩:=id a2;obtain⟨A2,c2,rfl,_⟩:=id a3;obtain⟨A3,c3,rfl,_⟩:=id a0;exact⟨A0,c0,A1,c1,A2,c2,A3,c3,rfl,⟨a4,a5⟩,a1,a2,a3,a0⟩
theorem PK {x:iB} (A0:N VQ)(c0:Nat)(S0:D Nat)(A1:N VQ)(c1:Nat)(S1:D Nat)(A2:N VQ)(c2:Nat)(S2:D Nat)(A3:N VQ)(c3:Nat)(S3:D Nat)(h0:fQ x.Id)(h1:(kr.sl 137).O w [J A0 x.fq.length c0] x.fq S0)(h2:(mh.sl 205).O w [J A1 x.gY.length c1] x.gY S1)(h3:(nk.sl 216).O w [J A2 x.gz.length c2] x.gz S2)(h4:(mc.sl 214).O w [J A3 x.gk.length c3] x.gk S3):og.O w [C Z x.Id,J A0 x.fq.length c0,J A1 x.gY.length c1,J A2 x.gz.length c2,J A3 x.gk.length c3] x (S0++S1++S2++S3):=by
 have h:og.O w [C Z x.Id,J A0 x.fq.length c0,J A1 x.gY.length c1,J A2 x.gz.length c2,J A3 x.gk.length c3] x ([]++(S0++(S1++(S2++S3)))):=⟨[C Z x.Id],[J A0 x.fq.length c0,J A1 x.gY.length c1,J A2 x.gz.length c2,J A3 x.gk.length c3],[],(S0++(S1++(S2++S3))),rfl,rfl,⟨rfl,h0.1,h0.2,rfl⟩,⟨[J A0 x.fq.length c0],[J A1 x.gY.length c1,J A2 x.gz.length c2,J A3 x.gk.length c3],S0,(S1++(S2++S3)),rfl,rfl,h1,⟨[J A1 x.gY.length c1],[J A2 x.gz.length c2,J A3 x.gk.length c3],S1,(S2++S3),rfl,rfl,h2,⟨[J A2 x.gz.length c2],[J A3 x.gk.length c3],S2,S3,rfl,rfl,h3,h4⟩⟩⟩⟩
 simpa using h
structure jT where
 fo:gQ
 gX:D iB
 deriving DecidableEq
def qP:Ty jT:=(nh.prod (og.sl 108)).via fun x=>(x.fo,x.gX)
theorem PJ {x:jT} (A0:N VQ)(c0:Nat)(S0:D Nat)(A1:N VQ)(c1:Nat)(S1:D Nat)(A2:N VQ)(c2:Nat)(S2:D Nat)(A3:N VQ)(c3:Nat)(S3:D Nat)(h0:(jS.sl 103).O w [J A0 x.fo.fw.length c0] x.fo.fw S0)(h1:(zv.sl 3).O w [J A1 x.fo.fD.length c1] x.fo.fD S1)(h2:(zv.sl 3).O w [J A2 x.fo.fm.length c2] x.fo.fm S2)(h3:(og.sl 108).O w [J A3 x.gX.length c3] x.gX S3):qP.O w [J A0 x.fo.fw.length c0,J A1 x.fo.fD.length c1,J A2 x.fo.fm.length c2,J A3 x.gX.length c3] x (S0++S1++S2++S3):=by
 have h:qP.O w [J A0 x.fo.fw.length c0,J A1 x.fo.fD.length c1,J A2 x.fo.fm.length c2,J A3 x.gX.length c3] x ((S0++(S1++S2))++S3):=⟨[J A0 x.fo.fw.length c0,J A1 x.fo.fD.length c1,J A2 x.fo.fm.length c2],[J A3 x.gX.length c3],(S0++(S1++S2)),S3,rfl,rfl,⟨[J A0 x.fo.fw.length c0],[J A1 x.fo.fD.length c1,J A2 x.fo.fm.length c2],S0,(S1++S2),rfl,rfl,h0,⟨[J A1 x.fo.fD.length c1],[J A2 x.fo.fm.length c2],S1,S2,rfl,rfl,h1,h2⟩⟩,h3⟩
 simpa using h
theorem LQ {c:Nat} {xs:D iF} (h:(mh.sl e).R w B [J A n c] xs){k:Nat}(hk:k<xs.length) :
  ∃ g off x ,A=F ⟨g,off,I⟩/\g<B/\xs[k]?=F x/\Vg w ⟨g,off+k*4,I⟩=F (C Z x.fA)/\Vg w ⟨g,off+k*4+1,I⟩=F (C Z x.iD)/\Vg w ⟨g,off+k*4+2,I⟩=F (X x.Frame)/\Vg w ⟨g,off+k*4+3,I⟩=F (C Z x.fT)/\fQ x.fA/\fQ x.iD/\fQ x.fT:=by
 obtain⟨g,off,x,ec,h1,hB,h2,h3,h4⟩:=pz h hk;obtain⟨rfl,hf⟩:=TO h3;exact⟨g,off,x,h1,hB,h2,h4 0 _ rfl,h4 1 _ rfl,h4 2 _ rfl,h4 3 _ rfl,hf⟩
theorem Nz:(prog.info? 205).map (fun i=>(i.zero,i.size,i.bytes))=F (F (.agg #[C Z 0,C Z 0,X M,C Z 0]),4,32):=gU
theorem Er:lL mh:=AA _ (qH zI (qH zI (qH JX zI)))
theorem FI:iZ prog 104 205 mh 32:=by
 obtain⟨i0,hi,a0,a1,a2⟩:=Xt Nz;exact⟨underlying104,⟨i0,_,hi,a0,a1,a2,rfl⟩,gv⟩
theorem Gf {c:Nat} {xs:D jk} (h:(nk.sl e).R w B [J A n c] xs){k:Nat}(hk:k<xs.length) :
  ∃ g off x ,A=F ⟨g,off,I⟩/\g<B/\xs[k]?=F x/\Vg w ⟨g,off+k*3,I⟩=F (C Z x.fN)/\Vg w ⟨g,off+k*3+1,I⟩=F (C Z x.fZ)/\Vg w ⟨g,off+k*3+2,I⟩=F (X x.fA)/\fQ x.fN/\fQ x.fZ:=by
 obtain⟨g,off,x,ec,h1,hB,h2,h3,h4⟩:=pz h hk;obtain⟨rfl,hf⟩:=UI h3;exact⟨g,off,x,h1,hB,h2,h4 0 _ rfl,h4 1 _ rfl,h4 2 _ rfl,hf⟩
theorem OE:(prog.info? 216).map (fun i=>(i.zero,i.size,i.bytes))=F (F (.agg #[C Z 0,C Z 0,X M]),3,24):=gU
theorem Le:lL nk:=AA _ (qH zI (qH zI JX))
theorem Mi:iZ prog 105 216 nk 24:=by
 obtain⟨i0,hi,a0,a1,a2⟩:=Xt OE;exact⟨underlying105,⟨i0,_,hi,a0,a1,a2,rfl⟩,gv⟩
theorem Di {c:Nat} {xs:D gL} (h:(mc.sl e).R w B [J A n c] xs){k:Nat}(hk:k<xs.length) :
  ∃ g off x ,A=F ⟨g,off,I⟩/\g<B/\xs[k]?=F x/\Vg w ⟨g,off+k*5,I⟩=F (C Z x.fA)/\Vg w ⟨g,off+k*5+1,I⟩=F (C Z x.iD)/\Vg w ⟨g,off+k*5+2,I⟩=F (C Z x.gJ)/\Vg w ⟨g,off+k*5+3,I⟩=F (C Z x.fZ)/\Vg w ⟨g,off+k*5+4,I⟩=F (Q x.fJ)/\fQ x.fA/\fQ x.iD/\fQ x.gJ/\fQ x.fZ/\x.fJ.size<=9223372036854775807:=by
 obtain⟨g,off,x,ec,h1,hB,h2,h3,h4⟩:=pz h hk;obtain⟨rfl,hf⟩:=Q9 h3;exact⟨g,off,x,h1,hB,h2,h4 0 _ rfl,h4 1 _ rfl,h4 2 _ rfl,h4 3 _ rfl,h4 4 _ rfl,hf⟩
theorem Ns:(prog.info? 214).map (fun i=>(i.zero,i.size,i.bytes))=F (F (.agg #[C Z 0,C Z 0,C Z 0,C Z 0,Q ⟨#[]⟩]),5,48):=gU
theorem Gq:lL mc:=AA _ (qH zI (qH zI (qH zI (qH zI ng))))
theorem GI:iZ prog 106 214 mc 48:=by
 obtain⟨i0,hi,a0,a1,a2⟩:=Xt Ns;exact⟨underlying106,⟨i0,_,hi,a0,a1,a2,rfl⟩,gv⟩
def De (x:iB)(w:V)(r:Z9)(w':V):Prop:=∃ A0 c0 A1 c1 A2 c2 A3 c3,r=.returned (.agg #[C Z x.Id,J A0 x.fq.length c0,J A1 x.gY.length c1,J A2 x.gz.length c2,J A3 x.gk.length c3])/\gH og w w' [C Z x.Id,J A0 x.fq.length c0,J A1 x.gY.length c1,J A2 x.gz.length c2,J A3 x.gk.length c3] x/\fy w w'
theorem Il {x:iB} {S4:D Nat} (h0:fQ x.Id)(h1:(kr.sl 137).O w [J A0 x.fq.length c0] x.fq S1)(h2:(mh.sl 205).O w [J A1 x.gY.length c1] x.gY S2)(h3:(nk.sl 216).O w [J A2 x.gz.length c2] x.gz S3)(h4:(mc.sl 214).O w [J A3 x.gk.length c3] x.gk S4):og.O w [C Z x.Id,J A0 x.fq.length c0,J A1 x.gY.length c1,J A2 x.gz.length c2,J A3 x.gk.length c3] x (S1++S2++S3++S4):=by
 have h:og.O w [C Z x.Id,J A0 x.fq.length c0,J A1 x.gY.length c1,J A2 x.gz.length c2,J A3 x.gk.length c3] x ([]++(S1++(S2++(S3++S4)))):=⟨[C Z x.Id],[J A0 x.fq.length c0,J A1 x.gY.length c1,J A2 x.gz.length c2,J A3 x.gk.length c3],[],(S1++(S2++(S3++S4))),rfl,rfl,⟨rfl,h0.1,h0.2,rfl⟩,⟨[J A0 x.fq.length c0],[J A1 x.gY.length c1,J A2 x.gz.length c2,J A3 x.gk.length c3],S1,(S2++(S3++S4)),rfl,rfl,h1,⟨[J A1 x.gY.length c1],[J A2 x.gz.length c2,J A3 x.gk.length c3],S2,(S3++S4),rfl,rfl,h2,⟨[J A2 x.gz.length c2],[J A3 x.gk.length c3],S3,S4,rfl,rfl,h3,h4⟩⟩⟩⟩
 simpa using h
theorem Nu {x:iB} {u2 u3 u4:V} {m2 m3 m4:Nat} (h0:fQ x.Id)(h1:kN (kr.sl 137) u1 m1 W [J A0 x.fq.length c0] x.fq)(h2:kN (mh.sl 205) u2 m2 W [J A1 x.gY.length c1] x.gY)(h3:kN (nk.sl 216) u3 m3 W [J A2 x.gz.length c2] x.gz)(h4:kN (mc.sl 214) u4 m4 W [J A3 x.gk.length c3] x.gk)(hw1:w.heap.size<=u1.heap.size)(hw2:w.heap.size<=u2.heap.size)(hw3:w.heap.size<=u3.heap.size)(hw4:w.heap.size<=u4.heap.size)(hd1_2:m1<=u2.heap.size∨m2<=u1.heap.size)(hd1_3:m1<=u3.heap.size∨m3<=u1.heap.size)(hd1_4:m1<=u4.heap.size∨m4<=u1.heap.size)(hd2_3:m2<=u3.heap.size∨m3<=u2.heap.size)(hd2_4:m2<=u4.heap.size∨m4<=u2.heap.size)(hd3_4:m3<=u4.heap.size∨m4<=u3.heap.size):gH og w W [C Z x.Id,J A0 x.fq.length c0,J A1 x.gY.length c1,J A2 x.gz.length c2,J A3 x.gk.length c3] x:=by
 obtain⟨S1,a8,a4,a0⟩:=h1;obtain⟨S2,a9,a5,a1⟩:=h2;obtain⟨S3,aa,a6,a2⟩:=h3;obtain⟨S4,ab,a7,a3⟩:=h4;exact⟨_,Il h0 a8 a9 aa ab,Wb.2 ⟨Wb.2 ⟨Wb.2 ⟨a4,a5,fun a ha b hb=>(by have h1:=a0 a ha;have h2:=a1 b hb;omega)⟩,a6,fun a ha b hb=>(VA.1 ha).elim (fun ha=>(by have h1:=a0 a ha;have h2:=a2 b hb;omega)) (fun ha=>(by have h1:=a1 a ha;have h2:=a2 b hb;omega))⟩,a7,fun a ha b hb=>(VA.1 ha).elim (fun ha=>(VA.1 ha).elim (fun ha=>(by have h1:=a0 a ha;have h2:=a3 b hb;omega)) (fun ha=>(by have h1:=a1 a ha;have h2:=a3 b hb;omega))) (fun ha=>(by have h1:=a2 a ha;have h2:=a3 b hb;omega))⟩,fun b hb=>(VA.1 hb).elim (fun hb=>(VA.1 hb).elim (fun hb=>(VA.1 hb).elim (fun hb=>(by have:=a0 b hb;omega)) (fun hb=>(by have:=a1 b hb;omega))) (fun hb=>(by have:=a2 b hb;omega))) (fun hb=>(by have:=a3 b hb;omega))⟩
theorem K6 {c:Nat} {xs:D iB} (h:(og.sl e).R w B [J A n c] xs){k:Nat}(hk:k<xs.length) :
  ∃ g off x A0 c0 A1 c1 A2 c2 A3 c3,A=F ⟨g,off,I⟩/\g<B/\xs[k]?=F x/\Vg w ⟨g,off+k*5,I⟩=F (C Z x.Id)/\Vg w ⟨g,off+k*5+1,I⟩=F (J A0 x.fq.length c0)/\Vg w ⟨g,off+k*5+2,I⟩=F (J A1 x.gY.length c1)/\Vg w ⟨g,off+k*5+3,I⟩=F (J A2 x.gz.length c2)/\Vg w ⟨g,off+k*5+4,I⟩=F (J A3 x.gk.length c3)/\fQ x.Id/\(kr.sl 137).R w B [J A0 x.fq.length c0] x.fq/\(mh.sl 205).R w B [J A1 x.gY.length c1] x.gY/\(nk.sl 216).R w B [J A2 x.gz.length c2] x.gz/\(mc.sl 214).R w B [J A3 x.gk.length c3] x.gk:=by
 obtain⟨g,off,x,ec,h1,hB,h2,h3,h4⟩:=pz h hk;obtain⟨A0,c0,A1,c1,A2,c2,A3,c3,rfl,hf⟩:=KK h3;exact⟨g,off,x,A0,c0,A1,c1,A2,c2,A3,c3,h1,hB,h2,h4 0 _ rfl,h4 1 _ rfl,h4 2 _ rfl,h4 3 _ rfl,h4 4 _ rfl,hf⟩
theorem MS:(prog.info? 108).map (fun i=>(i.zero,i.size,i.bytes))=F (F (.agg #[C Z 0,J I 0 0,J I 0 0,J I 0 0,J I 0 0]),5,104):=gU
theorem SG:iZ prog 29 108 og 104:=by
 obtain⟨i0,hi,a0,a1,a2⟩:=Xt MS;exact⟨underlying29,⟨i0,_,hi,a0,a1,a2,rfl⟩,gv⟩
theorem OQ {x:jT} (h0:nh.O w [J A0 x.fo.fw.length c0,J A1 x.fo.fD.length c1,J A2 x.fo.fm.length c2] x.fo S0)(h1:(og.sl 108).O w [J A3 x.gX.length c3] x.gX S1):qP.O w [J A0 x.fo.fw.length c0,J A1 x.fo.fD.length c1,J A2 x.fo.fm.length c2,J A3 x.gX.length c3] x (S0++S1):=by
 have h:qP.O w [J A0 x.fo.fw.length c0,J A1 x.fo.fD.length c1,J A2 x.fo.fm.length c2,J A3 x.gX.length c3] x (S0++S1):=⟨[J A0 x.fo.fw.length c0,J A1 x.fo.fD.length c1,J A2 x.fo.fm.length c2],[J A3 x.gX.length c3],S0,S1,rfl,rfl,h0,h1⟩
 exact h
theorem Nt {x:jT} {u0:V} {m0:Nat} (h0:kN nh u0 m0 W [J A0 x.fo.fw.length c0,J A1 x.fo.fD.length c1,J A2 x.fo.fm.length c2] x.fo)(h1:kN (og.sl 108) u1 m1 W [J A3 x.gX.length c3] x.gX)(hw0:w.heap.size<=u0.heap.size)(hw1:w.heap.size<=u1.heap.size)(hd0_1:m0<=u1.heap.size∨m1<=u0.heap.size):gH qP w W [J A0 x.fo.fw.length c0,J A1 x.fo.fD.length c1,J A2 x.fo.fm.length c2,J A3 x.gX.length c3] x:=by
 obtain⟨S0,a4,a2,a0⟩:=h0;obtain⟨S1,a5,a3,a1⟩:=h1;exact⟨_,OQ a4 a5,Wb.2 ⟨a2,a3,fun a ha b hb=>(by have h1:=a0 a ha;have h2:=a1 b hb;omega)⟩,fun b hb=>(VA.1 hb).elim (fun hb=>(by have:=a0 b hb;omega)) (fun hb=>(by have:=a1 b hb;omega))⟩
section
variable {P:Program} {ops:Array Oper} {Vc:Exit->Act->V->Prop} {md:XY} {S:V->Prop} {m:Nat}
def fL (P:Program)(md:XY)(ops:Array Oper)(Vc:Exit->Act->V->Prop)(S:V->Prop)(m:Nat):Nat->Array Bool->Act->V->Prop
 | 0,listed,a,w=>Wv md ops listed = []/\Vc .normal a w
 | f+1,listed,a,w=>(Wv md ops listed = []->Vc .normal a w)/\
   ∀ i∈Wv md ops listed,wpOp P ops Vc i (fun a' w'=>(i≠m->S w')/\fL P md ops Vc S m f (listed.setIfInBounds i H) a' w') a w
theorem fL.any:∀{f:Nat}{listed:Array Bool}{a:Act}{w:V},fL P md ops Vc S m f listed a w->wpAny P md ops Vc f listed a w
 | 0,_,_,_,h=>h
 | _+1,_,_,_,h=>⟨h.1,fun i hi=>wpOp_mono (fun _ _ h'=>h'.2.any) (h.2 i hi)⟩
def sO (md:XY)(ops:Array Oper)(m:Nat):Nat->D Nat->Bool
 | i,[]=>i == m
 | i,c::cs=>(match ops[c]? with
   | some o=>o.after.any fun e=>Region.binds md e && e.on == i
   | none=>M) && sO md ops m c cs
theorem Rm:∀(cs:D Nat)(i:Nat),sO md ops m i cs=H->listed.getD i H=M->(∀ c∈cs,listed.getD c H=M)->(∀ c∈cs,c∉Wv md ops listed)/\(cs≠[]->m∈cs):=by
 intro cs;induction cs with
 | nil=>intro i _ _ _;simp
 | cons c cs ih=>
  intro i hl hi hc;simp only[sO,Vt] at hl;obtain⟨a2,a1⟩:=hl;have a3:=hc c gm;obtain⟨h1,h2⟩:=ih c a1 a3 (fun d hd=>hc d (by simp[hd]))
  have a4:c∉Wv md ops listed:=by
   intro hr;obtain⟨_,o,ho,a0⟩:=mem_ready.1 hr;rw[ho] at a2;obtain⟨e,he,hb⟩:=Array.any_eq_true'.1 a2;simp only[Vt,V4] at hb;have h3:=a0 e he hb.1;rw[hb.2] at h3;rcases Y4 i listed.size with h' | h'
   ·simp[h'] at hi h3
    rw[hi] at h3;cases h3
   ·simp[Xq h'] at hi
  refine⟨fun d hd=>?_,fun _=>?_⟩
  ·rcases VT.1 hd with rfl | hd
   ·exact a4
   ·exact h1 d hd
  ·cases cs with
   | nil=>
    simp only[sO,V4] at a1;subst a1;simp
   | cons d ds=>exact WH _ (h2 gm)
theorem fL.first {v:Value} {cs:D Nat} (hi:ops[i]?=F oi)(hsel:XV ops=H)(hlk:sO md ops m i cs=H)(hne:cs≠[])
  (hQ:∀ c a w,Vc (.panic c) (a.put oi.dst v) w->Vc (.panic c) a w) :
  ∀(f:Nat) (listed:Array Bool) (a:Act) (w:V),(∀ j oj,ops[j]?=F oj->j≠i->listed.getD j H=M->(∀ e∈oj.after,Region.binds md e=H->e.on≠i)->oi.apart ops oj=H)->
   (∀ c∈cs,listed.getD c H=M)->i∈Wv md ops listed->YieldsIf P ops S oi v a->S w->
   fL P md ops Vc S m f (listed.setIfInBounds i H) (a.put oi.dst v) w->fL P md ops Vc S m (f+1) listed a w:=by
 intro f;induction f with
 | zero=>
  intro listed a w _ _ hr hy hS U9;refine⟨fun h=>absurd hr (by rw[h];simp),fun j hj=>?_⟩;by_cases hji:j=i
  ·subst hji
   exact hy.wpOp hi hS ⟨fun _=>hS,U9⟩
  ·exact absurd (ready_mono hj hji) (by rw[U9.1];simp)
 | succ f ih=>
  intro listed a w a0 a5 hr hy hS U9;have a1:=(mem_ready.1 hr).1;obtain⟨a4,a7⟩:=Rm cs i hlk a1 a5;refine⟨fun h=>absurd hr (by rw[h];simp),fun j hj=>?_⟩;by_cases hji:j=i
  ·subst hji
   exact hy.wpOp hi hS ⟨fun _=>hS,U9⟩
  ·have aa:j≠m:=fun h=>a4 j (h ▸ a7 hne) hj
   have a9:j∉cs:=fun h=>a4 j h hj;obtain⟨a6,oj,a3,a2⟩:=mem_ready.1 hj
   have ab:∀ e∈oj.after,Region.binds md e=H->e.on≠i:=by
    intro e he hb a8;have h1:=a2 e he hb;rw[a8] at h1;rcases Y4 i listed.size with h' | h'
    ·simp[h'] at a1 h1
     rw[a1] at h1;cases h1
    ·simp[Xq h'] at a1
   have h2:=wpOp_putIf a3 (a0 j oj a3 hji a6 ab) (fun c b=>Region.noSelect_spec hsel i oi c b hi) (fun c b=>Region.noSelect_spec hsel j oj c b a3) hQ hy (U9.2 j (ready_mono hj hji));refine wpOp_mono (fun a' w' h3=>?_) h2;obtain⟨h4,h5,h6⟩:=h3;refine⟨h5,ih (listed.setIfInBounds j H) a' w' (fun k ok hk hki hun hnk=>?_) (fun c hc=>?_) (ready_mono hr (Ne.symm hji)) h4 (h5 aa) (by rw[Array.setIfInBounds_comm _ _ hji];exact h6)⟩
   ·by_cases hjk:j=k
    ·subst hjk
     exact a0 j ok hk hki a6 hnk
    ·rw[Zo H hjk] at hun
     exact a0 k ok hk hki hun hnk
   ·rw[Zo H (show j≠c from fun h=>a9 (by rw[h];exact hc))]
    exact a5 c hc
def vB (listed:Array Bool)(cs:D Nat):Bool:=cs.all fun c=>!listed.getD c H
theorem fL.take {v:Value} {cs:D Nat} (hi:ops[i]?=F oi)(hsel:XV ops=H)(hf:YI md ops listed i=H)(hr:(Wv md ops listed).contains i=H)
  (hlk:sO md ops m i cs=H) (hne:cs.isEmpty=M) (hun:vB listed cs=H) (hQ:∀ c a w,Vc (.panic c) (a.put oi.dst v) w->Vc (.panic c) a w) (hS:S w)
  (hw:V6 oi (Xb ops a.tmps)=H) (hy:∀ w,S w->(execOp a.eval oi).run P w=.ok (.value v) w)
  (h:fL P md ops Vc S m f (listed.setIfInBounds i H) (a.put oi.dst v) w):fL P md ops Vc S m (f+1) listed a w:=
 fL.first hi hsel hlk (by cases cs <;> simp at hne |-) hQ f listed a w (Region.free_spec hi hf) (fun c hc=>by
  simp only[vB,Xm,Yr] at hun
  exact hun c hc) (by simpa using hr) (.inl ⟨hw,hy⟩) hS h
theorem fL.one (hr:Wv md ops listed = [i])(ho:ops[i]?=F o)
  (h:∀ K:Act->V->Prop,Hid (∀ a w,S w->(S w->fL P md ops Vc S m f (listed.setIfInBounds i H) a w)->K a w)->if V6 o (Xb ops a.tmps)=H then Oper.wp P o a w K Vc else K (a.put o.dst Yd) w):fL P md ops Vc S m (f+1) listed a w:=
 ⟨fun h0=>absurd (hr.symm.trans h0) (by simp),fun j hj=>by
  obtain rfl:j=i:=by simpa[hr] using hj
  exact wpOp_step ho (fun K hK=>h K (fk fun a w hS hT=>hK a w ⟨fun _=>hS,hT hS⟩))⟩
theorem fL.last (hr:Wv md ops listed = [m])(ho:ops[m]?=F o)(hd:Wv md ops (listed.setIfInBounds m H) = [])
  (h:∀ K:Act->V->Prop,Hid (∀ a w,Vc .normal a w->K a w)->if V6 o (Xb ops a.tmps)=H then Oper.wp P o a w K Vc else K (a.put o.dst Yd) w):fL P md ops Vc S m (f+1) listed a w:=
 ⟨fun h0=>absurd (hr.symm.trans h0) (by simp),fun j hj=>by
  obtain rfl:j=m:=by simpa[hr] using hj
  refine wpOp_step ho (fun K hK=>h K (fk fun a w hq=>hK a w ⟨fun h=>absurd rfl h,?_⟩));cases f with
  | zero=>exact⟨hd,hq⟩
  | succ f=>exact⟨fun _=>hq,by rw[hd];simp⟩⟩
theorem lO {id:Nat} (S:V->Prop)(m:Nat)(hm:P.follows .mixedOrders=H)(hS:S w.drew)
  (h:S w.drew->fL P .any ops Vc S m ops.size (Array.replicate ops.size M) a w.drew):(Code.region id ops H).wp P Vc a w:=
 wp_region_any hm (h hS).any
end
theorem fL.tk {Vc:Exit->Act->V->Prop} {md:XY} {S:V->Prop} (i:Nat)(cs:D Nat){oi:Oper}{v:Value}{f:Nat}{listed:Array Bool}{a a2:Act}{w:V}(hS:S w)(h:fL P md ops Vc S m f (listed.setIfInBounds i H) a2 w)
  (hi:ops[i]?=F oi:=by exact rfl) (hsel:XV ops=H:=by kernel_rfl) (hf:YI md ops listed i=H:=by kernel_rfl) (hr:(Wv md ops listed).contains i=H:=by kernel_rfl) (hlk:sO md ops m i cs=H:=by kernel_rfl) (hne:cs.isEmpty=M:=by exact rfl) (hun:vB listed cs=H:=by kernel_rfl)
  (hQ:∀ c a w,Vc (.panic c) (a.put oi.dst v) w->Vc (.panic c) a w:=by exact fun _ _ _ h=>h) (hw:V6 oi (Xb ops a.tmps)=H:=by kernel_rfl) (hy:∀ w,S w->(execOp a.eval oi).run P w=.ok (.value v) w:=by intro w hSw;(try dsimp only at hSw);go_simp;(try with_reducible rfl)) (ha:a.put oi.dst v=a2:=by(try simp only[lay]) <;> exact rfl):fL P md ops Vc S m (f+1) listed a w:=
 fL.take hi hsel hf hr hlk hne hun hQ hS hw hy (ha ▸ h)
theorem fL.tq {Vc:Exit->Act->V->Prop} {md:XY} {S:V->Prop} (i:Nat)(cs:D Nat){oi:Oper}{v:Value}{f:Nat}{listed:Array Bool}{a a2:Act}{w:V}(hS:S w)(h:fL P md ops Vc S m f (listed.setIfInBounds i H) a2 w)
  (hi:ops[i]?=F oi:=by exact rfl) (hsel:XV ops=H:=by kernel_rfl) (hf:YI md ops listed i=H:=by kernel_rfl) (hr:(Wv md ops listed).contains i=H:=by kernel_rfl) (hlk:sO md ops m i cs=H:=by kernel_rfl) (hne:cs.isEmpty=M:=by exact rfl) (hun:vB listed cs=H:=by kernel_rfl)
  (hQ:∀ c a w,Vc (.panic c) (a.put oi.dst v) w->Vc (.panic c) a w:=by exact fun _ _ _ h=>h) (hw:V6 oi (Xb ops a.tmps)=H:=by first | rfl | kernel_rfl) (hy:∀ w,S w->(execOp a.eval oi).run P w=.ok (.value v) w:=by intro w hSw;(try dsimp only at hSw);go_simp;(try with_reducible rfl)) (ha:a.put oi.dst v=a2:=by(try simp only[lay]) <;> exact rfl):fL P md ops Vc S m (f+1) listed a w:=
 fL.take hi hsel hf hr hlk hne hun hQ hS hw hy (ha ▸ h)
section
variable {P:Program} {ops:Array Oper} {Vc:Exit->Act->V->Prop} {md:XY} {S:V->Prop} {m:Nat}
theorem fL.oG (ho:ops[i]?=F o)
  (h:∀ K:Act->V->Prop,Hid (∀ a w,S w->fL P md ops Vc S m f (listed.setIfInBounds i H) a w->K a w)->if V6 o (Xb ops a.tmps)=H then Oper.wp P o a w K Vc else K (a.put o.dst Yd) w) :
  wpOp P ops Vc i (fun a' w'=>(i≠m->S w')/\fL P md ops Vc S m f (listed.setIfInBounds i H) a' w') a w:=
 wpOp_step ho (fun K hK=>h K (fk fun a w hS hT=>hK a w ⟨fun _=>hS,hT⟩))
theorem fL.iQ (hr:Wv md ops listed = [i])(ho:ops[i]?=F o)
  (h:∀ K:Act->V->Prop,Hid (∀ a w,S w->fL P md ops Vc S m f (listed.setIfInBounds i H) a w->K a w)->if V6 o (Xb ops a.tmps)=H then Oper.wp P o a w K Vc else K (a.put o.dst Yd) w):fL P md ops Vc S m (f+1) listed a w:=
 ⟨fun h0=>absurd (hr.symm.trans h0) (by simp),fun j hj=>by
  obtain rfl:j=i:=by simpa[hr] using hj
  exact fL.oG ho h⟩
theorem fL.s7 {o2:Oper} (hr:Wv md ops listed = [i,j])(ho:ops[i]?=F o)(ho2:ops[j]?=F o2)
  (h:∀ K:Act->V->Prop,Hid (∀ a w,S w->fL P md ops Vc S m f (listed.setIfInBounds i H) a w->K a w)->if V6 o (Xb ops a.tmps)=H then Oper.wp P o a w K Vc else K (a.put o.dst Yd) w)
  (h2:∀ K:Act->V->Prop,Hid (∀ a w,S w->fL P md ops Vc S m f (listed.setIfInBounds j H) a w->K a w)->if V6 o2 (Xb ops a.tmps)=H then Oper.wp P o2 a w K Vc else K (a.put o2.dst Yd) w):fL P md ops Vc S m (f+1) listed a w:=
 ⟨fun h0=>absurd (hr.symm.trans h0) (by simp),fun k hk=>by
  have a0:k=i∨k=j:=by simpa[hr] using hk
  rcases a0 with rfl | rfl
  ·exact fL.oG ho h
  ·exact fL.oG ho2 h2⟩
theorem fL.Bg {l:Nat} {o2 o3:Oper} (hr:Wv md ops listed = [i,j,l])(ho:ops[i]?=F o)(ho2:ops[j]?=F o2)(ho3:ops[l]?=F o3)
  (h:∀ K:Act->V->Prop,Hid (∀ a w,S w->fL P md ops Vc S m f (listed.setIfInBounds i H) a w->K a w)->if V6 o (Xb ops a.tmps)=H then Oper.wp P o a w K Vc else K (a.put o.dst Yd) w)
  (h2:∀ K:Act->V->Prop,Hid (∀ a w,S w->fL P md ops Vc S m f (listed.setIfInBounds j H) a w->K a w)->if V6 o2 (Xb ops a.tmps)=H then Oper.wp P o2 a w K Vc else K (a.put o2.dst Yd) w)
  (h3:∀ K:Act->V->Prop,Hid (∀ a w,S w->fL P md ops Vc S m f (listed.setIfInBounds l H) a w->K a w)->if V6 o3 (Xb ops a.tmps)=H then Oper.wp P o3 a w K Vc else K (a.put o3.dst Yd) w):fL P md ops Vc S m (f+1) listed a w:=
 ⟨fun h0=>absurd (hr.symm.trans h0) (by simp),fun k hk=>by
  have a0:k=i∨k=j∨k=l:=by simpa[hr] using hk
  rcases a0 with rfl | rfl | rfl
  ·exact fL.oG ho h
  ·exact fL.oG ho2 h2
  ·exact fL.oG ho3 h3⟩
end
structure J3 {α β:Type}(T:Ty α)(U7:Ty β)(e f:Wl)(Y W:V)(va vb:Value)(xa:D α)(xb:D β)(Sa Sb:D Nat)(go:Nat)(o:Obj):Prop where
 ha:Has (T.sl e) W [va] xa Sa
 hb:Has (U7.sl f) W [vb] xb Sb
 sW:∀ b∈Sa,b∉Sb
 la:∀ b∈Sa,Y.heap.size<=b
 lb:∀ b∈Sb,Y.heap.size<=b
 hg:fy Y W
 ho:W.heap[go]?=F o
 su:go∉Sa
 uK:go∉Sb
section
variable {α β:Type} {T:Ty α} {U7:Ty β} {e f:Wl} {Y W W':V} {va vb:Value} {xa:D α} {xb:D β} {Sa Sb:D Nat} {go:Nat} {o:Obj}
theorem J3.fH (h:J3 T U7 e f Y W va vb xa xb Sa Sb go o)(hg:fy W W'):J3 T U7 e f Y W' va vb xa xb Sa Sb go o:=
 ⟨h.ha.fH hg,h.hb.fH hg,h.sW,h.la,h.lb,h.hg.trans hg,zj h.ho hg,h.su,h.uK⟩
theorem J3.start (ho:Y.heap[go]?=F o):J3 T U7 e f Y Y (J I 0 0) (J I 0 0) [] [] [] [] go o:=
 ⟨Has.nil _ _ _,Has.nil _ _ _,gm,gm,gm,fy.refl _,ho,gm,gm⟩
theorem J3.nM (h:J3 T U7 e f Y W va vb xa xb Sa Sb go o):J3 T U7 e f Y (W.alloc (U #[] e)) (J (F ⟨W.heap.size,0,I⟩) 0 0) vb [] xb [W.heap.size] Sb go o:=by
 have hl:=(blt h.ho)
 refine⟨Has.iK T (Vj _ _),h.hb.fH ((fy.refl _).alloc _),fun b hb hm=>?_,fun b hb=>?_,h.lb,h.hg.alloc _,zj h.ho ((fy.refl _).alloc _),?_,h.uK⟩
 ·have:=h.hb.lt b hm;simp at hb;omega
 ·have:=h.hg.size;simp at hb;omega
 ·simp;omega
theorem J3.lu (h:J3 T U7 e f Y W va vb xa xb Sa Sb go o):J3 T U7 e f Y (W.alloc (U #[] f)) va (J (F ⟨W.heap.size,0,I⟩) 0 0) xa [] Sa [W.heap.size] go o:=by
 have hl:=(blt h.ho)
 refine⟨h.ha.fH ((fy.refl _).alloc _),Has.iK U7 (Vj _ _),fun b hb hm=>?_,h.la,fun b hb=>?_,h.hg.alloc _,zj h.ho ((fy.refl _).alloc _),h.su,?_⟩
 ·have:=h.ha.lt b hb;simp at hm;omega
 ·have:=h.hg.size;simp at hb;omega
 ·simp;omega
theorem J3.mV {cs:Array Value} {t:Wl} (h:J3 T U7 e f Y W va vb xa xb Sa Sb go o):J3 T U7 e f Y (W.alloc (U cs t)) va vb xa xb Sa Sb W.heap.size (U cs t (0,0)):=by
 refine⟨h.ha.fH ((fy.refl _).alloc _),h.hb.fH ((fy.refl _).alloc _),h.sW,h.la,h.lb,h.hg.alloc _,Vj _ _,fun hm=>?_,fun hm=>?_⟩
 ·have:=h.ha.lt _ hm;omega
 ·have:=h.hb.lt _ hm;omega
theorem J3.rO {va':Value} {xa':D α} {Sa':D Nat} (h:J3 T U7 e f Y W va vb xa xb Sa Sb go o)(hon:fG Sa W W')(hH:Has (T.sl e) W' [va'] xa' Sa')(hS:∀ b∈Sa',b∈Sa∨W.heap.size<=b):J3 T U7 e f Y W' va' vb xa' xb Sa' Sb go o:=by
 have hl:=(blt h.ho)
 refine⟨hH,h.hb.gu hon (fun b hb hm=>h.sW b hm hb),fun b hb hm=>?_,fun b hb=>?_,h.lb,hon.fH h.hg h.la,(hon.block go hl h.su).trans h.ho,fun hm=>?_,h.uK⟩
 ·rcases hS b hb with h1 | h1
  ·exact h.sW b h1 hm
  ·have:=h.hb.lt b hm;omega
 ·rcases hS b hb with h1 | h1
  ·exact h.la b h1
  ·have:=h.hg.size;omega
 ·rcases hS go hm with h1 | h1
  ·exact h.su h1
  ·omega
theorem J3.DP {vb':Value} {xb':D β} {Sb':D Nat} (h:J3 T U7 e f Y W va vb xa xb Sa Sb go o)(hon:fG Sb W W')(hH:Has (U7.sl f) W' [vb'] xb' Sb')(hS:∀ b∈Sb',b∈Sb∨W.heap.size<=b):J3 T U7 e f Y W' va vb' xa xb' Sa Sb' go o:=by
 have hl:=(blt h.ho)
 refine⟨h.ha.gu hon (fun b hb hm=>h.sW b hb hm),hH,fun b hb hm=>?_,h.la,fun b hb=>?_,hon.fH h.hg h.lb,(hon.block go hl h.uK).trans h.ho,h.su,fun hm=>?_⟩
 ·rcases hS b hm with h1 | h1
  ·exact h.sW b hb h1
  ·have:=h.ha.lt b hb;omega
 ·rcases hS b hb with h1 | h1
  ·exact h.lb b h1
  ·have:=h.hg.size;omega
 ·rcases hS go hm with h1 | h1
  ·exact h.uK h1
  ·omega
theorem J3.cell {p:VQ}{v:Value}(h:J3 T U7 e f Y W va vb xa xb Sa Sb go o)(hc:Y.cell? p=F v):W.cell? p=F v:=by
 obtain⟨os,d,hw⟩:=h.hg;rw[hw];exact zd hc os d
theorem J3.store {o':Obj} (h:J3 T U7 e f Y W va vb xa xb Sa Sb go o)(hon:fG [go] W W')(ho':W'.heap[go]?=F o')(hgo:Y.heap.size<=go):J3 T U7 e f Y W' va vb xa xb Sa Sb go o':=
 ⟨h.ha.gu hon (fun b hb hm=>h.su (by simp at hm;exact hm ▸ hb)),h.hb.gu hon (fun b hb hm=>h.uK (by simp at hm;exact hm ▸ hb)),h.sW,h.la,h.lb,hon.fH h.hg (fun b hb=>by simp at hb;omega),ho',h.su,h.uK⟩
end
end Go.Proofs.YthgbglbaemelhaaGreat
