/-
  The law FnExactMakeDebug answers true for every input: the program and the reference compute the same; the arguments stay; the result is of its own memory. No condition.
-/
import Derived.Test.YtiihkapmggfjkaaGreatM50LawMakeDebug
import Derived.Test.YtiihkapmggfjkaaGreatRows
import Derived.Test.YtiihkapmggfjkaaGreatFactsMakeDebug
import Derived.ShutString
set_option linter.unusedVariables false
set_option linter.unusedSimpArgs false
set_option maxRecDepth 100000
set_option maxHeartbeats 64000000
namespace Go.Proofs.YtiihkapmggfjkaaGreat
open Value renaming slice->J,int->F,bool->X
open IntKind renaming i64->I
open Option renaming none->V,some->H
open Obj renaming cells->C
open Bool renaming false->U,true->M
open Go renaming World->N,Value->LA,Calls->LR,Addr->Mh
open World renaming cell?->Lg
open List renaming length_cons->LJ,length_singleton->Mj,length_nil->Mk,foldl_cons->NC
open _root_.ByteArray renaming size->M8
open _root_.Go.Proofs.Tryz
open Go.RowKit
variable {K9:Nat}{p:Q fG}
theorem Bk:∀(l:Q fQ)(out:Q gZ),(l.foldl mO out).length<=out.length+l.length
 | [],_=>Lz _
 | x::r,out=>by
  have h1:(mO out x).length<=out.length+1:=by
   unfold mO;simp only;split
   ·simp
   ·split
    ·simp only[Lj,List.length_dropLast,Mj];omega
    ·simp
  have h2:=Bk r (mO out x);rw[NC,LJ];omega
theorem Gl (l:Q fQ):(kU l).length<=l.length:=by
 unfold kU;split
 ·have:=Bk l []
  simpa using this
 ·exact Lv _
theorem BV:∀(l:Q fQ)(q:K fS),(nQ q l).length<=l.length
 | [],_=>Lz _
 | x::r,q=>by
  have h:=BV r (H x.Item);rw[LJ];cases q with
  | none=>simp only[nQ,Lj,Mj];omega
  | some y=>
   simp only[nQ,Lj];split
   ·simp only[Mk];omega
   ·simp only[Mj];omega
theorem Fq (p:Q fG)(b:gC)(image:Int):(mb p b image).fM.length<=14400/\(mb p b image).gB.length<=14400/\(mb p b image).Rows.length<=14400/\(mb p b image).fY.length<=10000000:=by
 unfold mb;split
 ·obtain⟨a0,hl,a1⟩:=vO p b image
  have h1:=(ui (p:=p) a1 _ (Lz _)).2.1;have h2:=Gl (zK p b image);have h3:=BV (zK p b image) V;have h4:=xt (p:=p) (xs:=zK p b image) (by omega) (xZ a0);refine⟨?_,?_,?_,h4⟩
  ·show (lD p b image).fM.length<=_
   rw[wA];omega
  ·show (kU (zK p b image)).length<=_
   omega
  ·show (nQ V (zK p b image)).length<=_
   omega
 ·exact⟨Lv _,Lv _,Lv _,Lv _⟩
theorem Fp (p:Q fG)(b:gC)(image:Int):qO (mb p b image)<=60000000:=by
 have:=Fq p b image;unfold qO pq pT qo qM;omega
theorem J1 {α:Type} (f:α->Nat){xs:Q α}{x:α}(h:x∈xs):f x<=jz f xs:=by
 obtain⟨j,hj⟩:=NZ h;exact Ab f hj
theorem GS (h:jz kR p<=K9):∀ x∈p,x.fP.length<=K9/\x.Expr.length<=K9/\x.Name.size<=K9:=fun x hx=>by
 have h1:x.Name.size+jz M8 x.fP+jz lS x.Expr<=jz kR p:=J1 kR hx;have h2:=tx M8 x.fP;have h3:=tx lS x.Expr;omega
theorem IL {α:Type} {f g:α->Nat} {k:Nat} (h:∀ x,f x<=k*(1+g x))(xs:Q α):lk f xs<=k*jz g xs:=by
 unfold lk jz;induction xs with
 | nil=>simp
 | cons x xs ih=>
  simp only[NI,List.sum_cons,LJ];have h1:=h x;rw[Nat.mul_add] at *
  have e1:k*(xs.length+1)=k*xs.length+k:=by rw[Nat.mul_add,Og]
  have e2:k*(g x+(xs.map g).sum)=k*g x+k*(xs.map g).sum:=Nat.mul_add _ _ _;omega
theorem F8 (h:jz kR p<=K9):tV p<=3*K9:=by
 have h1:=IL (f:=nu) (g:=kR) (k:=3) (fun x=>by
  unfold nu kR uh;have h2:=tx M8 x.fP;have h3:=tx lS x.Expr
  omega) p
 unfold tV;omega
end Go.Proofs.YtiihkapmggfjkaaGreat
namespace Go.Proofs.YtiihkapmggfjkaaGreat.fnExactMakeDebug
open Value renaming slice->J,int->F,bool->X
open IntKind renaming i64->I
open Option renaming none->V,some->H
open Obj renaming cells->C
open Bool renaming false->U,true->M
open Go renaming World->N,Value->LA,Calls->LR,Addr->Mh
open World renaming cell?->Lg
open List renaming length_cons->LJ,length_singleton->Mj,length_nil->Mk,foldl_cons->NC
open _root_.ByteArray renaming size->M8
open _root_.Go.Proofs.Tryz
open Go.ChangeShapes Go.WideShapes Go.ChangeAt Go.RowKit
open Go.ChangeMaps (open_string shut_string)
theorem own:ownKnob prog.godebug=V:=by kernel_rfl
theorem laidOut:laidOutB prog=M:=by kernel_rfl
theorem zgE {w:N} {B:Nat} {x:iT} {A0:K Mh} {c0:Nat} {A1:K Mh} {c1:Nat} {A2:K Mh} {c2:Nat} {A3:K Mh} {c3:Nat} (h:oE.R w B [F I x.Id,J A0 x.fM.length c0,J A1 x.gB.length c1,J A2 x.Rows.length c2,J A3 x.fY.length c3] x):fV x.Id/\(jU.sl 110).R w B [J A0 x.fM.length c0] x.fM/\(jJ.sl 137).R w B [J A1 x.gB.length c1] x.gB/\(kd.sl 139).R w B [J A2 x.Rows.length c2] x.Rows/\(jH.sl 143).R w B [J A3 x.fY.length c3] x.fY:=by
 obtain⟨a0,a4,a1,a5,a2,a6,a3,a7,hc,f0,f1,f2,f3,f4⟩:=Jo h;simp only[NV,Nb,OT,OJ] at hc;obtain⟨⟨rfl,rfl⟩,⟨rfl,rfl⟩,⟨rfl,rfl⟩,⟨rfl,rfl⟩⟩:=hc;exact⟨f0,f1,f2,f3,f4⟩
theorem walk (w:N)(v_p:LA)(l:Q fG)(h_p:(zM.sl 87).R w w.heap.size [v_p] l)(cs_b:Array LA)(b:gC)(h_b:uj.R w w.heap.size cs_b.toList b)(image:Int)(hb1_image : -9223372036854775808<=image)(hb2_image:image<=9223372036854775807) :
  LR prog 3 #[v_p,.agg cs_b,F I image] w fun e w'=>e=.returned (X M)/\fF w w':=by
 obtain⟨A0,c0,rfl,bA,bs⟩:=jV h_p;obtain⟨ar,ay,az⟩:=Jn h_b;obtain rfl:=Array.toList_inj.1 (show cs_b.toList=(#[F I b.Frames,F I b.Inline,X b.Fold,X b.Split]:Array LA).toList from ar);clear h_b ar;obtain⟨n0,aH⟩:∃ n,jz kR l=n:=⟨_,rfl⟩
 by_cases hz0:(n0:Int)<=1048576
 case neg=>
  have e0:kp (1048576) (jz kR l) = -1:=by rw[aH];exact Lt (by omega)
  clear aH;go_enter func3,ntmps3;go_wp2_with(fail);refine(zlD (xs:=l) (Ty.up _ h_p gG) (by omega) (by omega)).mono ?_;rintro e w1 ⟨rfl,ca,d0,rfl⟩;go_wp2;go_ret;exact⟨rfl,gG⟩
 have e0:kp (1048576) (jz kR l)=1048576-(n0:Int):=by rw[aH];exact Lu (by omega)
 have bL:l.length<=1048576:=by have h:=aH;have:=tx kR l;omega
 have aI:jz kR l<=1048576:=by omega
 have bc:=GS aI;have aT:=fE (show ∀ x∈l,x.fP.length<=1099511627776/\x.Expr.length<=1099511627776 from fun x hx=>by have:=bc x hx;omega);have aU:=fE (show ∀ x∈l,x.Name.size<=9223372036854775807 from fun x hx=>by have:=bc x hx;omega);have b7:tV l<=3145728:=F8 aI;have aw:=Fp l b image;obtain⟨Lf,hD⟩:∃ Lf,mb l b image=Lf:=⟨_,rfl⟩
 rw[hD] at aw;have HP:=fE hD;clear aH hD bc;go_enter func3,ntmps3;go_upto_region 5 with(first | (go_at_call 6;(with_reducible refine(zlD (xs:=l) (Ty.up _ h_p gF) (by omega) (by omega)).mono ?_);rintro e w1 ⟨rfl,a7⟩));have aX:fF w w1:=fF.trans (b:=_) gF a7;obtain⟨nb,ba⟩:∃ n,w.heap.size=n:=⟨_,rfl⟩
 have aM:=zj (Lp w (C #[F I b.Frames,F I b.Inline,X b.Fold,X b.Split] 24)) a7;rw[ba] at aM |-;obtain⟨b0,b1,b2,b3,bf,bl⟩:=jq aM;have bC:=fE h_p;have aR:=fE (Ty.up _ h_p aX);have bk:=fE aX;have bY:=fE aM;have bZ:=fE ba;clear a7 aX aM ba e0 h_p;go_upto_region 5 with(fail);go_cut [8] from 15 to 25 (fun a wx=>∃(bx:Nat) (B0:K Mh) (e0:Nat) (B1:K Mh) (e1:Nat) (B2:K Mh) (e2:Nat) (B3:K Mh) (e3:Nat),a=.pointer (H ⟨bx,0,V⟩)/\w1.heap.size<=bx/\Hid (Lg wx ⟨bx,0,V⟩=H (F I Lf.Id))/\Hid (Lg wx ⟨bx,1,V⟩=H (J B0 Lf.fM.length e0))/\Hid (Lg wx ⟨bx,2,V⟩=H (J B1 Lf.gB.length e1))/\Hid (Lg wx ⟨bx,3,V⟩=H (J B2 Lf.Rows.length e2))/\Hid (Lg wx ⟨bx,4,V⟩=H (J B3 Lf.fY.length e3))/\Hid (fF w1 wx)/\Hid (gM oE w1 wx [F I Lf.Id,J B0 Lf.fM.length e0,J B1 Lf.gB.length e1,J B2 Lf.Rows.length e2,J B3 Lf.fY.length e3] Lf))
 case first=>
  go_region_held3 (fun w'=>Lg w' ⟨nb,0,V⟩=H (F I b.Frames)/\Lg w' ⟨nb,1,V⟩=H (F I b.Inline)/\Lg w' ⟨nb,2,V⟩=H (X b.Fold)/\Lg w' ⟨nb,3,V⟩=H (X b.Split)) ((repeat' apply Ls) <;> (first | ((repeat (first | assumption | with_reducible refine zC ?_ _ _ | with_reducible refine zo ?_ _ | with_reducible refine zb ?_));done) | (simp[go_sem];done))) (first | (go_at_call 8;(with_reducible refine(zgG (xs:=l) (Ty.up _ aR.out gF) (by omega)).mono ?_);rintro e v1 ⟨A2,c2,rfl,aV,bO,d2,rfl⟩) | (go_at_call 9;(with_reducible refine(zij (x:=b) ay az).mono ?_);rintro e v2 ⟨rfl,bD,bP,d3,rfl⟩) | (go_at_call 7;(with_reducible refine(znx (b:=b) (image:=image) (Ty.up _ aV.read gF) (by omega) aT.out aU.out).mono ?_);rw[HP.out];rintro e v3 ⟨B0,e0,B1,e1,B2,e2,B3,e3,rfl,aG,bQ,d4,rfl⟩))
  all_goals go_wp2_with(fail)
  all_goals go_meet
  all_goals refine⟨_,B0,e0,B1,e1,B2,e2,B3,e3,rfl,(by first | omega | (simp <;> omega)),fE (by simp[go_sem]),fE (by simp[go_sem]),fE (by simp[go_sem]),fE (by simp[go_sem]),fE (by simp[go_sem]),fE gG,fE ?_⟩
  all_goals first
   | exact(aG.AQ.same (gX.base (by simp) (by first | omega | (simp <;> omega)))).fresh (by first | omega | (simp <;> omega))
   | exact(aG.since (by first | omega | (simp <;> omega))).fO gF
 case rest=>
 obtain⟨bx,B0,e0,B1,e1,B2,e2,B3,e3,rfl,bJ,a1,a2,a3,a4,a5,bF,bn⟩:=hcut;have gc:=bF.out;replace a1:=a1.out;replace a2:=a2.out;replace a3:=a3.out;replace a4:=a4.out;replace a5:=a5.out;replace b0:=za gc b0;replace b1:=za gc b1;replace b2:=za gc b2;replace b3:=za gc b3;have bM:bx<wc.heap.size:=MM _ _ a1;go_wp2_with(fail);refine(zgG (xs:=l) (Ty.up _ aR.out gc) (by omega)).mono ?_;rintro e w2 ⟨A5,c5,rfl,aW,k2⟩;replace b0:=za k2 b0;replace b1:=za k2 b1;replace b2:=za k2 b2;replace b3:=za k2 b3;replace a1:=za k2 a1;replace a2:=za k2 a2;replace a3:=za k2 a3;replace a4:=za k2 a4;replace a5:=za k2 a5;go_wp2_with(fail);refine(zij (x:=b) ay az).mono ?_;rintro e w3 ⟨rfl,-,k3⟩;replace b0:=za k3 b0;replace b1:=za k3 b1;replace b2:=za k3 b2;replace b3:=za k3 b3;replace a1:=za k3 a1;replace a2:=za k3 a2;replace a3:=za k3 a3;replace a4:=za k3 a4;replace a5:=za k3 a5;go_wp2_with(fail);refine(ziN (b:=b) (image:=image) (Ty.up _ aW.read k3) (by omega) aT.out aU.out).mono ?_;rw[HP.out];rintro e w4 ⟨C0,f0,C1,f1,C2,f2,C3,f3,rfl,bq,k4⟩;replace b0:=za k4 b0;replace b1:=za k4 b1;replace b2:=za k4 b2;replace b3:=za k4 b3;replace a1:=za k4 a1;replace a2:=za k4 a2;replace a3:=za k4 a3;replace a4:=za k4 a4;replace a5:=za k4 a5;go_upto_region 8 with(fail);have ex:=Lp w4 (C #[F I Lf.Id,J C0 Lf.fM.length f0,J C1 Lf.gB.length f1,J C2 Lf.Rows.length f2,J C3 Lf.fY.length f3] 31);have k5:fF w4 (w4.alloc (C #[F I Lf.Id,J C0 Lf.fM.length f0,J C1 Lf.gB.length f1,J C2 Lf.Rows.length f2,J C3 Lf.fY.length f3] 31)):=(fF.refl w4).alloc _;obtain⟨gx,b8⟩:∃ n,w4.heap.size=n:=⟨_,rfl⟩
 rw[b8] at ex |-;generalize w4.alloc _=w5 at ex k5 |-;obtain⟨a8,a7,a9,aa,ab,-,bK⟩:=pC ex;have b9:w4.heap.size<=gx:=N4 b8;clear ex b8;replace b0:=za k5 b0;replace b1:=za k5 b1;replace b2:=za k5 b2;replace b3:=za k5 b3;replace a1:=za k5 a1;replace a2:=za k5 a2;replace a3:=za k5 a3;replace a4:=za k5 a4;replace a5:=za k5 a5;have aD:=fE (zgE bq.read);have aE:=fE (zgE bn.out.read);have aN:=(k3.trans k4).trans k5;have ax:=k2.trans aN;go_wp2_with(fail);refine(zhW (x:=Lf) (y:=Lf) (Ty.up _ aD.out.2.1 k5) (Ty.up _ aD.out.2.2.1 k5) (Ty.up _ aD.out.2.2.2.1 k5) (Ty.up _ aD.out.2.2.2.2 k5) (Ty.up _ aE.out.2.1 ax) (Ty.up _ aE.out.2.2.1 ax) (Ty.up _ aE.out.2.2.2.1 ax) (Ty.up _ aE.out.2.2.2.2 ax)).mono ?_;rintro e w6 ⟨rfl,k6⟩;replace b0:=za k6 b0;replace b1:=za k6 b1;replace b2:=za k6 b2;replace b3:=za k6 b3;replace a1:=za k6 a1;replace a2:=za k6 a2;replace a3:=za k6 a3;replace a4:=za k6 a4;replace a5:=za k6 a5;replace a8:=za k6 a8;replace a7:=za k6 a7;replace a9:=za k6 a9;replace aa:=za k6 aa;replace ab:=za k6 ab;go_wp2_with(fail);refine(zgG (xs:=l) (Ty.up _ aR.out (gc.trans (ax.trans k6))) (by omega)).mono ?_;rintro e w7 ⟨A9,c9,rfl,bm,k7⟩;replace b0:=za k7 b0;replace b1:=za k7 b1;replace b2:=za k7 b2;replace b3:=za k7 b3;replace a1:=za k7 a1;replace a2:=za k7 a2;replace a3:=za k7 a3;replace a4:=za k7 a4;replace a5:=za k7 a5;replace a8:=za k7 a8;replace a7:=za k7 a7;replace a9:=za k7 a9;replace aa:=za k7 aa;replace ab:=za k7 ab;go_wp2_with(fail);refine(zpH (xs:=l) (ys:=l) (Ty.up _ aW.read (aN.trans (k6.trans k7))) bm.read).mono ?_;rintro e w8 ⟨rfl,k8⟩;replace b0:=za k8 b0;replace b1:=za k8 b1;replace b2:=za k8 b2;replace b3:=za k8 b3;replace a1:=za k8 a1;replace a2:=za k8 a2;replace a3:=za k8 a3;replace a4:=za k8 a4;replace a5:=za k8 a5;replace a8:=za k8 a8;replace a7:=za k8 a7;replace a9:=za k8 a9;replace aa:=za k8 aa;replace ab:=za k8 ab;go_wp2_with(fail);have aJ:=(k6.trans k7).trans k8;have bd:=aN.trans aJ;have aO:=ax.trans aJ;have be:=k5.trans aJ;have G8:=bk.out.trans (gc.trans aO);obtain⟨Sw,aZ,bI,bH⟩:=bn.out;have b5:=Ty.jB _ aZ;obtain⟨Sx,b4,bp,aF⟩:=aW;have b6:=Ty.jB _ b4;obtain⟨Sg,aY,bo,aC⟩:=bq;have br:=Ty.jB _ aY;have z1:=bk.out.size;have zc:=gc.size;have bW:=aO.size;have z2:=k2.size;have z3:=k3.size;have z4:=k4.size;have bV:=aJ.size;have bT:=bd.size;have bU:=be.size;have bb:nb<w1.heap.size:=bl;refine(znz (xs:=l) (Ty.jl _ b4 bd) bp (by omega) (by omega)).mono ?_;rintro e w9 ⟨rfl,-,a0⟩;have av:=ny _ aZ a0 aO (fun b hb hm=>by have q1:=b5 b hb;have q2:=aF b hm;omega);have au:=ny _ aY a0 be (fun b hb hm=>by have q1:=aC b hb;have q2:=b6 b hm;omega);have ap:nb∉Sx:=fun hm=>by have q2:=aF nb hm;omega
 have ah:bx∉Sx:=fun hm=>by have q2:=aF bx hm;omega
 have aj:gx∉Sx:=fun hm=>by have q2:=b6 gx hm;omega
 have aK:nb<w8.heap.size:=by omega
 have aA:bx<w8.heap.size:=by omega
 have aB:gx<w8.heap.size:=by omega
 replace b0:=(a0.cell aK ap 0).trans b0;replace b1:=(a0.cell aK ap 1).trans b1;replace b2:=(a0.cell aK ap 2).trans b2;replace b3:=(a0.cell aK ap 3).trans b3;replace a1:=(a0.cell aA ah 0).trans a1;replace a2:=(a0.cell aA ah 1).trans a2;replace a3:=(a0.cell aA ah 2).trans a3;replace a4:=(a0.cell aA ah 3).trans a4;replace a5:=(a0.cell aA ah 4).trans a5;replace a8:=(a0.cell aB aj 0).trans a8;replace a7:=(a0.cell aB aj 1).trans a7;replace a9:=(a0.cell aB aj 2).trans a9;replace aa:=(a0.cell aB aj 3).trans aa;replace ab:=(a0.cell aB aj 4).trans ab;have G9:=a0.fO G8 (fun b hb=>by have q2:=aF b hb;omega);have z9:=a0.size;have am:=fE (zgE (Ty.read _ au));have an:=fE (zgE (Ty.read _ av));clear a0 ap ah aj;go_wp2_with(fail);have a6:=fF.refl w9;refine(zhW (x:=Lf) (y:=Lf) (Ty.up _ am.out.2.1 a6) (Ty.up _ am.out.2.2.1 a6) (Ty.up _ am.out.2.2.2.1 a6) (Ty.up _ am.out.2.2.2.2 a6) (Ty.up _ an.out.2.1 a6) (Ty.up _ an.out.2.2.1 a6) (Ty.up _ an.out.2.2.2.1 a6) (Ty.up _ an.out.2.2.2.2 a6)).mono ?_;rintro e bg ⟨rfl,a6⟩;replace b0:=za a6 b0;replace b1:=za a6 b1;replace b2:=za a6 b2;replace b3:=za a6 b3;replace a1:=za a6 a1;replace a2:=za a6 a2;replace a3:=za a6 a3;replace a4:=za a6 a4;replace a5:=za a6 a5;replace a8:=za a6 a8;replace a7:=za a6 a7;replace a9:=za a6 a9;replace aa:=za a6 aa;replace ab:=za a6 ab;have bS:=a6.size;have bi:=G9.trans a6;go_wp2_with(fail);refine(zny (x:=Lf) (Ty.jl _ au a6) bo (by omega) (by omega)).mono ?_;rintro e bR ⟨rfl,hM,a0⟩;have aq:=ny _ av a0 a6 (fun b hb hm=>by have q1:=b5 b hb;have q2:=aC b hm;omega);have ap:nb∉Sg:=fun hm=>by have q2:=aC nb hm;omega
 have ah:bx∉Sg:=fun hm=>by have q2:=aC bx hm;omega
 have aj:gx∉Sg:=fun hm=>by have q2:=br gx hm;omega
 have ao:nb<bg.heap.size:=by omega
 have ag:bx<bg.heap.size:=by omega
 have ai:gx<bg.heap.size:=by omega
 replace b0:=(a0.cell ao ap 0).trans b0;replace b1:=(a0.cell ao ap 1).trans b1;replace b2:=(a0.cell ao ap 2).trans b2;replace b3:=(a0.cell ao ap 3).trans b3;replace a1:=(a0.cell ag ah 0).trans a1;replace a2:=(a0.cell ag ah 1).trans a2;replace a3:=(a0.cell ag ah 2).trans a3;replace a4:=(a0.cell ag ah 3).trans a4;replace a5:=(a0.cell ag ah 4).trans a5;replace a8:=(a0.cell ai aj 0).trans a8;replace a7:=(a0.cell ai aj 1).trans a7;replace a9:=(a0.cell ai aj 2).trans a9;replace aa:=(a0.cell ai aj 3).trans aa;replace ab:=(a0.cell ai aj 4).trans ab;have bj:=a0.fO bi (fun b hb=>by have q2:=aC b hb;omega);have cd:=a0.size;have ae:=fE (zgE (Ty.read _ aq));have HM:=fE (Gg hM);clear a0 ap ah aj;go_wp2_with(fail);have ac:=fF.refl bR;refine(ziF (x:=Lf) HM.out.1 HM.out.2.1 HM.out.2.2.1 HM.out.2.2.2 (by omega) (by omega)).mono ?_;rintro e bh ⟨rfl,ac⟩;replace b0:=za ac b0;replace b1:=za ac b1;replace b2:=za ac b2;replace b3:=za ac b3;replace a1:=za ac a1;replace a2:=za ac a2;replace a3:=za ac a3;replace a4:=za ac a4;replace a5:=za ac a5;replace a8:=za ac a8;replace a7:=za ac a7;replace a9:=za ac a9;replace aa:=za ac aa;replace ab:=za ac ab;have aP:=bj.trans ac;have aS:=fE (Ty.up _ bC.out aP);have aQ:=fE aP;have bX:=ac.size;clear k2 k3 k4 k5 k6 k7 k8 a6 gc ax aO aN bd be aJ G8 G9 bi bj aP z1 zc bW z2 z3 z4 bV bT bU z9 bS aZ bI bH b5 b4 bp aF b6 aY bo aC br av au aK aA aB ao ag ai hM aq bm aD aE am an bb b9 bK bM bJ;go_upto_region 24 with(fail);go_cut [14] from 64 to 69 (fun a wx=>∃(bx:Nat) (B0:K Mh) (e0:Nat) (B1:K Mh) (e1:Nat) (B2:K Mh) (e2:Nat) (B3:K Mh) (e3:Nat),a=.pointer (H ⟨bx,0,V⟩)/\bh.heap.size<=bx/\Hid (Lg wx ⟨bx,0,V⟩=H (F I Lf.Id))/\Hid (Lg wx ⟨bx,1,V⟩=H (J B0 Lf.fM.length e0))/\Hid (Lg wx ⟨bx,2,V⟩=H (J B1 Lf.gB.length e1))/\Hid (Lg wx ⟨bx,3,V⟩=H (J B2 Lf.Rows.length e2))/\Hid (Lg wx ⟨bx,4,V⟩=H (J B3 Lf.fY.length e3))/\Hid (fF bh wx)/\Hid (gM oE bh wx [F I Lf.Id,J B0 Lf.fM.length e0,J B1 Lf.gB.length e1,J B2 Lf.Rows.length e2,J B3 Lf.fY.length e3] Lf))
 case first=>
  go_region_held3 (fun w'=>Lg w' ⟨nb,0,V⟩=H (F I b.Frames)/\Lg w' ⟨nb,1,V⟩=H (F I b.Inline)/\Lg w' ⟨nb,2,V⟩=H (X b.Fold)/\Lg w' ⟨nb,3,V⟩=H (X b.Split)) ((repeat' apply Ls) <;> (first | ((repeat (first | assumption | with_reducible refine zC ?_ _ _ | with_reducible refine zo ?_ _ | with_reducible refine zb ?_));done) | (simp[go_sem];done))) (first | (go_at_call 8;(with_reducible refine(zgG (xs:=l) (Ty.up _ aS.out gF) (by omega)).mono ?_);rintro e v1 ⟨A2,c2,rfl,aV,bO,d2,rfl⟩) | (go_at_call 9;(with_reducible refine(zij (x:=b) ay az).mono ?_);rintro e v2 ⟨rfl,bD,bP,d3,rfl⟩) | (go_at_call 10;(with_reducible refine(ziN (b:=b) (image:=image) (Ty.up _ aV.read gF) (by omega) aT.out aU.out).mono ?_);rw[HP.out];rintro e v3 ⟨B0,e0,B1,e1,B2,e2,B3,e3,rfl,aG,bQ,d4,rfl⟩))
  all_goals go_wp2_with(fail)
  all_goals go_meet
  all_goals refine⟨_,B0,e0,B1,e1,B2,e2,B3,e3,rfl,(by first | omega | (simp <;> omega)),fE (by simp[go_sem]),fE (by simp[go_sem]),fE (by simp[go_sem]),fE (by simp[go_sem]),fE (by simp[go_sem]),fE gG,fE ?_⟩
  all_goals first
   | exact(aG.AQ.same (gX.base (by simp) (by first | omega | (simp <;> omega)))).fresh (by first | omega | (simp <;> omega))
   | exact(aG.since (by first | omega | (simp <;> omega))).fO gF
 case rest=>
 obtain⟨c7,E0,c1,E1,c3,E2,c4,E3,c6,rfl,c8,bt,bu,bv,bw,bz,bG,bE⟩:=hcut;have ak:=bG.out;replace bt:=bt.out;replace bu:=bu.out;replace bv:=bv.out;replace bw:=bw.out;replace bz:=bz.out;replace a1:=za ak a1;replace a2:=za ak a2;replace a3:=za ak a3;replace a4:=za ak a4;replace a5:=za ak a5;replace a8:=za ak a8;replace a7:=za ak a7;replace a9:=za ak a9;replace aa:=za ak aa;replace ab:=za ak ab;have aL:=fE (zgE bE.out.read);have ad:=ac.trans ak;go_wp2_with(fail);refine(zhW (x:=Lf) (y:=Lf) (Ty.up _ aL.out.2.1 (fF.refl _)) (Ty.up _ aL.out.2.2.1 (fF.refl _)) (Ty.up _ aL.out.2.2.2.1 (fF.refl _)) (Ty.up _ aL.out.2.2.2.2 (fF.refl _)) (Ty.up _ ae.out.2.1 ad) (Ty.up _ ae.out.2.2.1 ad) (Ty.up _ ae.out.2.2.2.1 ad) (Ty.up _ ae.out.2.2.2.2 ad)).mono ?_;rintro e cb ⟨rfl,al⟩;replace a1:=za al a1;replace a2:=za al a2;replace a3:=za al a3;replace a4:=za al a4;replace a5:=za al a5;replace a8:=za al a8;replace a7:=za al a7;replace a9:=za al a9;replace aa:=za al aa;replace ab:=za al ab;go_wp2_with(fail);have af:=ad.trans al;refine(ziF (x:=Lf) (Ty.up _ HM.out.1 af) (Ty.up _ HM.out.2.1 af) (Ty.up _ HM.out.2.2.1 af) (Ty.up _ HM.out.2.2.2 af) (by omega) (by omega)).mono ?_;rintro e cc ⟨rfl,bN⟩;have bB:=(aQ.out.trans ak).trans (al.trans bN);go_wp2;go_ret;exact⟨rfl,bB⟩
theorem lifted (os:Os)(started:os.Started)(K6:Type)(enc:TypeId × LA->K6) :
  ReturnsInHanded {} Tryz.checked os 3 .any (Rows.fnExactMakeDebugSpec.pre6 enc prog f3 Rows.fnExactMakeDebugRow.domain U) (Rows.fnExactMakeDebugSpec.post enc prog f3 U M U U):=by
 refine returnsInHanded_of_change (C:=Tryz.checked) own started (by kernel_rfl) func3
  (ChangeSpec.witness6 (enc:=enc) (C:=Tryz.checked) U ⟨#[],#[J V 0 0,.agg #[F I 0,F I 0,X U,X U],F I 0],[]⟩ 8 (by kernel_rfl) (by kernel_rfl) (by kernel_rfl) (by kernel_rfl)) ?_
 intro W base args ds gs a6 a4 hW ab _;have a3:∀(j:Nat) t v,f3.params[j]?=H t->args[j]?=H v->Value.okWide prog W .any base t v:=a4;have aa:=hW;obtain⟨p,q,a7,hV,rfl,ai,aj⟩:=hW;have hA:DataW.TrodAll enc prog W 0 (fun _=>M) M f3.params.toList args.toList ds p:=a7;rw[Tryz.params3] at hA a3;obtain⟨v0,ak,d0,af,p0,q0,a8,rfl,rfl,h0,r0⟩:=trodAll_cons hA;obtain⟨v1,al,d1,ag,p1,q1,rfl,rfl,rfl,h1,r1⟩:=trodAll_cons r0;obtain⟨v2,am,d2,ah,p2,q2,rfl,rfl,rfl,h2,r2⟩:=trodAll_cons r1;obtain⟨rfl,rfl,rfl⟩:=trodAll_nil r2;obtain rfl:args=#[v0,v1,v2]:=by cases args;simp_all
 obtain⟨rfl,rfl⟩:=trodVars_none hV;have k0:=h0;have ac:∀ x∈p0,x.block<W.heap.size:=by obtain⟨m,hm⟩:=k0;exact DataW.trod_lt m _ _ _ hm
 obtain⟨a0,w0⟩:=DF (zt (e':=87) underlying22 (by kernel_rfl) (by decide) GL) h0;rw[Iq underlying22 (a3 0 22 v0 rfl rfl)] at w0;have k1:=h1;have ad:∀ x∈p1,x.block<W.heap.size:=by obtain⟨m,hm⟩:=k1;exact DataW.trod_lt m _ _ _ hm
 obtain⟨a9,rfl⟩:=Jz underlying24 (a3 1 24 v1 rfl rfl);obtain⟨a1,w1⟩:=DF Gr h1;have k2:=h2;have ae:∀ x∈p2,x.block<W.heap.size:=by obtain⟨m,hm⟩:=k2;exact DataW.trod_lt m _ _ _ hm
 obtain⟨a2,rfl,rfl,rfl,w2⟩:=open_int underlying3 (a3 2 3 v2 rfl rfl) h2;clear a7 a4;refine(walk W v0 a0 w0 a9 a1 w1 a2 (we w2).1 (we w2).2).mono fun e W' ⟨he,hgro⟩=>?_;subst he;have a5:=hgro.below;exact⟨_,rfl,_,_,_,[],_,[],aa,trodAll_mk1 (shut_bool underlying4 _),(OP (Below.trod laidOut (by kernel_rfl) (Ng (by kernel_rfl)) k0 a5 ac) (OP (Below.trod laidOut (by kernel_rfl) (Ng (by kernel_rfl)) k1 a5 ad) (OP (Below.trod laidOut (by kernel_rfl) (Ng (by kernel_rfl)) k2 a5 ae) trodAll_mk0))),rfl,a5.frame _,fun h=>by cases h⟩
theorem over:Rows.fnExactMakeDebugRow.holds Tryz.pinned (OpenSpec.ofChange Rows.fnExactMakeDebugSpec):=
 OpenClaim.holds_of_wide 3 f3 rfl rfl rfl rfl rfl rfl rfl ⟨rfl,rfl,rfl,rfl,rfl⟩ rfl rfl rfl rfl rfl (by kernel_rfl) func3 facts
  (Ng (by kernel_rfl)) (by unfold Func.isWrapper;first | (rw[Lu (by decide +kernel)];kernel_rfl) | (rw[Lt (by decide +kernel)];exact⟨rfl,rfl⟩))
  (fun os started K6 enc _=>lifted os started K6 enc)
theorem proved:Rows.FnExactMakeDebugSaid:=over
#print axioms proved
end Go.Proofs.YtiihkapmggfjkaaGreat.fnExactMakeDebug
