/-
  PART.
-/
import Derived.Test.YthgbglbaemelhaaGreatM7LawSlices
import Derived.Test.YthgbglbaemelhaaGreatM11LawSlices
set_option linter.unusedVariables false
set_option linter.unusedSimpArgs false
set_option maxRecDepth 100000
set_option maxHeartbeats 8000000
namespace Go.Proofs.YthgbglbaemelhaaGreat
open Value renaming slice->G,int->J,bool->H,string->V
open IntKind renaming i64->C,wrap->QP
open Option renaming none->D,some->Z
open Obj renaming cells->F
open Bool renaming false->I,true->M
open Go renaming World->U,results->Rd,Calls->Rh,Addr->Ri,yielded->Su,undef->TE
open World renaming cell?->QL,frozen?->Rb
open _root_.Int renaming toNat_natCast->Ra
open List renaming length_cons->Rc,length_nil->Ru
open Region renaming wanted->Rx,ready->RL,noSelect->Tn,Mode->Ts,free->Ui
open RowKit renaming intOf->Ry
open _root_.Nat renaming add_zero->RK
open Tryz
open Go.RowKit
variable {A:X Ri}{P:Program}{a:iV}{c m:Nat}{ops:Array Oper}{t:gB}{w:U}{xs:Q gB}
theorem fA.skip {QI:Exit->Act->U->Prop} {md:Ts} {S:U->Prop} {i:Nat} {oi:Oper} {cs:Q Nat} {f:Nat} {listed:Array Bool} {a:Act} (hi:ops[i]?=Z oi)(hsel:Tn ops=M)(hf:Ui md ops listed i=M)(hr:(RL md ops listed).contains i=M)
  (hlk:qB md ops m i cs=M) (hne:cs.isEmpty=I) (hun:sZ listed cs=M) (hQ:∀ c a w,QI (.panic c) (a.put oi.dst TE) w->QI (.panic c) a w) (hS:S w)
  (hw:Rx oi (Su ops a.tmps)=I)
  (h:fA P md ops QI S m f (listed.setIfInBounds i M) (a.put oi.dst TE) w):fA P md ops QI S m (f+1) listed a w:=
 fA.first hi hsel hlk (by cases cs <;> simp at hne |-) hQ f listed a w (Region.free_spec hi hf) (fun c hc=>by
  simp only[sZ,SG,TU] at hun
  exact hun c hc) (by simpa using hr) (.inr ⟨hw,rfl⟩) hS h
theorem fA.sk {QI:Exit->Act->U->Prop} {md:Ts} {S:U->Prop} (i:Nat)(cs:Q Nat){oi:Oper}{f:Nat}{listed:Array Bool}{a a2:Act}{w:U}(hS:S w)(h:fA P md ops QI S m f (listed.setIfInBounds i M) a2 w)
  (hi:ops[i]?=Z oi:=by exact rfl) (hsel:Tn ops=M:=by kernel_rfl) (hf:Ui md ops listed i=M:=by kernel_rfl) (hr:(RL md ops listed).contains i=M:=by kernel_rfl) (hlk:qB md ops m i cs=M:=by kernel_rfl) (hne:cs.isEmpty=I:=by exact rfl) (hun:sZ listed cs=M:=by kernel_rfl)
  (hQ:∀ c a w,QI (.panic c) (a.put oi.dst TE) w->QI (.panic c) a w:=by exact fun _ _ _ h=>h) (hw:Rx oi (Su ops a.tmps)=I:=by kernel_rfl) (ha:a.put oi.dst TE=a2:=by(try simp only[lay]) <;> exact rfl):fA P md ops QI S m (f+1) listed a w:=
 fA.skip hi hsel hf hr hlk hne hun hQ hS hw (ha ▸ h)
theorem fA.sq {QI:Exit->Act->U->Prop} {md:Ts} {S:U->Prop} (i:Nat)(cs:Q Nat){oi:Oper}{f:Nat}{listed:Array Bool}{a a2:Act}{w:U}(hS:S w)(h:fA P md ops QI S m f (listed.setIfInBounds i M) a2 w)
  (hi:ops[i]?=Z oi:=by exact rfl) (hsel:Tn ops=M:=by kernel_rfl) (hf:Ui md ops listed i=M:=by kernel_rfl) (hr:(RL md ops listed).contains i=M:=by kernel_rfl) (hlk:qB md ops m i cs=M:=by kernel_rfl) (hne:cs.isEmpty=I:=by exact rfl) (hun:sZ listed cs=M:=by kernel_rfl)
  (hQ:∀ c a w,QI (.panic c) (a.put oi.dst TE) w->QI (.panic c) a w:=by exact fun _ _ _ h=>h) (hw:Rx oi (Su ops a.tmps)=I:=by first | rfl | kernel_rfl) (ha:a.put oi.dst TE=a2:=by(try simp only[lay]) <;> exact rfl):fA P md ops QI S m (f+1) listed a w:=
 fA.skip hi hsel hf hr hlk hne hun hQ hS hw (ha ▸ h)
theorem za {a b:U} (h:ft a b){p:Ri}{v:Value}(hp:a.cell? p=Z v):b.cell? p=Z v:=by
 obtain⟨os,d,rfl⟩:=h;exact zd hp os d
theorem iJ {W:U} {g:Nat} {o0 o1 o2 o3:Value} {e:TypeId} (h:W.heap[g]?=Z (F #[o0,o1,o2,o3] e (0,0))) :
  QL W ⟨g,0,D⟩=Z o0/\QL W ⟨g,1,D⟩=Z o1/\QL W ⟨g,2,D⟩=Z o2/\QL W ⟨g,3,D⟩=Z o3/\(∀ j,Rb W ⟨g,j,D⟩=I)/\g<W.heap.size:=by
 refine⟨?_,?_,?_,?_,fun j=>by simp[Rb,h],(blt h)⟩
 all_goals
  rw[RV W g _ _ _ (0,0) h]
  rfl
def pt (a:iV):Bool:=zU a.fo && decide (a.fX.length=2) && (match a.fo.fq,a.fX with
 | [i0,i1],[d0,d1]=>qE i0 d0 && qE i1 d1
 | _,_=>I)
theorem Iz {α:Type} {xs:Q α} {x y:α} (h:xs.length=2)(h0:xs[0]?=Z x)(h1:xs[1]?=Z y):xs = [x,y]:=by
 match xs,h with
 | [p,q],_=>
  simp at h0 h1;rw[h0,h1]
theorem KB {i0 i1:gu} {d0 d1:gE} (hq:zU a.fo=M)(hd:a.fX.length=2)(hi0:a.fo.fq[0]?=Z i0)(hi1:a.fo.fq[1]?=Z i1)(hd0:a.fX[0]?=Z d0)(hd1:a.fX[1]?=Z d1) :
  pt a=(qE i0 d0 && qE i1 d1):=by
 have h1:a.fo.fq.length=2:=by
  have h:=hq;simp only[zU,Q4,Rg] at h;omega
 unfold pt;rw[hq,Iz h1 hi0 hi1,Iz hd hd0 hd1];simp
theorem uy {g:Prop} (f:g:=by
  go_wp2_with(go_at_call 41;(with_reducible refine(zbU (s:=a.fo) z0 z1 z2 hs).mono ?_);rw[HQ.out];rintro e v0 ⟨rfl,hg0⟩;have y0:=za hg0 y0;have y1:=za hg0 y1;have y2:=za hg0 y2;have y3:=za hg0 y3)
  go_ret
  exact⟨zo (by rw[HR.out]),hG0.trans hg0⟩):g:=f
theorem zr1 {A0 A1 A2 A3:X Ri} {c0 c1 c2 c3:Nat} (h0:(iL.sl 103).R w w.heap.size [G A0 a.fo.fq.length c0] a.fo.fq)(h1:(zr.sl 3).R w w.heap.size [G A1 a.fo.fu.length c1] a.fo.fu)
  (h2:(zr.sl 3).R w w.heap.size [G A2 a.fo.Entries.length c2] a.fo.Entries) (h3:(me.sl 108).R w w.heap.size [G A3 a.fX.length c3] a.fX) (hs:jP a.fo<=1099511627776) :
  Rh prog 56 #[.agg #[G A0 a.fo.fq.length c0,G A1 a.fo.fu.length c1,G A2 a.fo.Entries.length c2,G A3 a.fX.length c3]] w fun r w'=>r=.returned (H (pt a))/\ft w w':=by
 have hG0:ft w (w.alloc (F #[G A0 a.fo.fq.length c0,G A1 a.fo.fu.length c1,G A2 a.fo.Entries.length c2,G A3 a.fX.length c3] 31)):=gG;have eb:=QO w (F #[G A0 a.fo.fq.length c0,G A1 a.fo.fu.length c1,G A2 a.fo.Entries.length c2,G A3 a.fX.length c3] 31);have z0:=Ty.up _ h0 hG0;have z1:=Ty.up _ h1 hG0;have z2:=Ty.up _ h2 hG0;have z3:=Ty.up _ h3 hG0;obtain⟨g,hg⟩:∃ g,w.heap.size=g:=⟨_,rfl⟩
 obtain⟨q,hq⟩:∃ q,zU a.fo=q:=⟨_,rfl⟩
 have HQ:=fh hq;go_enter func56,ntmps56;go_upto_region 1 with(fail);rw[hg] at eb;generalize w.alloc _=Y at hG0 eb z0 z1 z2 z3 |-;clear h0 h1 h2 h3;obtain⟨y0,y1,y2,y3,yf,yl⟩:=iJ eb;cases q with
 | false=>
  have HR:=fh (show pt a=I from by unfold pt;rw[hq];rfl);clear hq;exact uy
 | true=>
  by_cases hd2n:a.fX.length=2
  case neg=>
   have HR:=fh (show pt a=I from by unfold pt;rw[QT hd2n];simp);have aX:((a.fX.length:Int) == 2)=I:=by simp;omega
   have aY:((a.fX.length:Int) != 2)=M:=by simp;omega
   clear hd2n hq;exact uy
  case pos=>
   obtain⟨aq,ar⟩:a.fo.fq.length=2/\∀ i∈a.fo.fq,i.Code.size<=1000000:=by
    have h1:=hq;simp only[zU,Q4,Rg,SG] at h1;refine⟨by omega,fun i hi=>?_⟩;have h2:=h1.1.1.1.2 i hi;simp only[jr,Q4,Rg] at h2;exact h2.1
   have aX:((a.fX.length:Int) == 2)=M:=by simp;omega
   have aY:((a.fX.length:Int) != 2)=I:=by simp;omega
   have b1:(0:Int)<(a.fo.fq.length:Int):=by omega
   have b2:(1:Int)<(a.fo.fq.length:Int):=by omega
   have b3:(0:Int)<(a.fX.length:Int):=by omega
   have b4:(1:Int)<(a.fX.length:Int):=by omega
   have b5:0<a.fo.fq.length:=by omega
   have b6:1<a.fo.fq.length:=by omega
   have b7:0<a.fX.length:=by omega
   have b8:1<a.fX.length:=by omega
   obtain⟨gi,oi,i0,C0,k0,ak,_,ao,a2,a3,_,aT⟩:=qW z0 (k:=0) (by omega);obtain⟨b0,ba,i1,C1,k1,ah,_,ap,a4,a5,_,aU⟩:=qW z0 (k:=1) (by omega);obtain⟨gd,od,d0,aD,aL,aE,aM,aF,aN,aG,aO,al,_,ay,a6,a7,a8,a9,aa,_,aV,_,_,_⟩:=H9 z3 (k:=0) (by omega);obtain⟨aZ,b9,d1,aH,aP,aI,aQ,aJ,aR,aK,aS,ai,_,az,ab,ac,ad,ae,af,_,aW,_,_,_⟩:=H9 z3 (k:=1) (by omega);rw[ak] at ah;injection ah with ah
   injection ah with q1 q2
   subst q1 q2;rw[al] at ai;injection ai with ai
   injection ai with q1 q2
   subst q1 q2;simp only[Ux,RK,TV,UW,Nat.reduceAdd] at a2 a3 a4 a5 a6 a7 a8 a9 aa ab ac ad ae af;have au:i0.Code.size<=1099511627776:=by have:=ar i0 (Q9 ao);omega
   have av:i1.Code.size<=1099511627776:=by have:=ar i1 (Q9 ap);omega
   have aw:=fh (KB hq hd2n ao ap ay az);obtain⟨f0,aB⟩:∃ b,qE i0 d0=b:=⟨_,rfl⟩
   have aj:=fh aB;obtain⟨f1,aC⟩:∃ b,qE i1 d1=b:=⟨_,rfl⟩
   have ax:=fh aC;rw[ak] at y0 z0;rw[al] at y3;clear hq ao ap ay az aB aC aq ar hd2n ak al;go_upto_region 3 with(go_at_call 41;(with_reducible refine(zbU (s:=a.fo) z0 z1 z2 hs).mono ?_);rw[HQ.out];rintro e v0 ⟨rfl,hg0⟩;have y0:=za hg0 y0;have y1:=za hg0 y1;have y2:=za hg0 y2;have y3:=za hg0 y3);have a2:=za hg0 a2;have a3:=za hg0 a3;have a6:=za hg0 a6;have a7:=za hg0 a7;have a8:=za hg0 a8;have a9:=za hg0 a9;have aa:=za hg0 aa;have a4:=za hg0 a4;have a5:=za hg0 a5;have ab:=za hg0 ab;have ac:=za hg0 ac;have ad:=za hg0 ad;have ae:=za hg0 ae;have af:=za hg0 af;refine jT (fun w'=>QL w' ⟨g,0,D⟩=Z (G (Z ⟨gi,oi,D⟩) a.fo.fq.length c0)/\QL w' ⟨g,1,D⟩=Z (G A1 a.fo.fu.length c1)/\QL w' ⟨g,2,D⟩=Z (G A2 a.fo.Entries.length c2)/\QL w' ⟨g,3,D⟩=Z (G (Z ⟨gd,od,D⟩) a.fX.length c3)/\QL w' ⟨gi,oi,D⟩=Z (V i0.Code)/\QL w' ⟨gi,oi+1,D⟩=Z (G C0 i0.fm.length k0)/\QL w' ⟨gd,od,D⟩=Z (J C d0.Id)/\QL w' ⟨gd,od+1,D⟩=Z (G aD d0.fm.length aL)/\QL w' ⟨gd,od+2,D⟩=Z (G aE d0.fY.length aM)/\QL w' ⟨gd,od+3,D⟩=Z (G aF d0.Rows.length aN)/\QL w' ⟨gd,od+4,D⟩=Z (G aG d0.fI.length aO)/\QL w' ⟨gi,oi+2,D⟩=Z (V i1.Code)/\QL w' ⟨gi,oi+3,D⟩=Z (G C1 i1.fm.length k1)/\QL w' ⟨gd,od+5,D⟩=Z (J C d1.Id)/\QL w' ⟨gd,od+6,D⟩=Z (G aH d1.fm.length aP)/\QL w' ⟨gd,od+7,D⟩=Z (G aI d1.fY.length aQ)/\QL w' ⟨gd,od+8,D⟩=Z (G aJ d1.Rows.length aR)/\QL w' ⟨gd,od+9,D⟩=Z (G aK d1.fI.length aS)) 22 (by kernel_rfl) (QQ (zc y0) (QQ (zc y1) (QQ (zc y2) (QQ (zc y3) (QQ (zc a2) (QQ (zc a3) (QQ (zc a6) (QQ (zc a7) (QQ (zc a8) (QQ (zc a9) (QQ (zc aa) (QQ (zc a4) (QQ (zc a5) (QQ (zc ab) (QQ (zc ac) (QQ (zc ad) (QQ (zc ae) (zc af)))))))))))))))))) (fun hH=>?_);have aA:ft v0 v0.drew:=(ft.refl _).drew;clear y0 y1 y2 y3 a2 a3 a6 a7 a8 a9 aa a4 a5 ab ac ad ae af;generalize v0.drew=wx at aA hH |-;obtain⟨y0,y1,y2,y3,a2,a3,a6,a7,a8,a9,aa,a4,a5,ab,ac,ad,ae,af⟩:=id hH;have an:=hg0.trans aA;refine .tk 0 [22] hH ?_;refine .tk 1 [22] hH ?_;refine .tk 2 [22] hH ?_;refine .tk 3 [22] hH ?_;refine .tk 4 [22] hH ?_;refine .tk 5 [22] hH ?_;refine .tk 6 [22] hH ?_;refine .tk 7 [22] hH ?_;refine .tk 8 [22] hH ?_;refine fA.one (i:=9) (by kernel_rfl) rfl (fun K hK=>?_);go_simp;go_at_call 94;(with_reducible refine(zjx (i:=i0) (d:=d0) (Ty.up _ aT an) (Ty.up _ aV an) au).mono ?_);rw[aj.out];rintro e v1 ⟨rfl,a0⟩;have ag:=an.trans a0;have y0:=za a0 y0;have y1:=za a0 y1;have y2:=za a0 y2;have y3:=za a0 y3;have a2:=za a0 a2;have a3:=za a0 a3;have a6:=za a0 a6;have a7:=za a0 a7;have a8:=za a0 a8;have a9:=za a0 a9;have aa:=za a0 aa;have a4:=za a0 a4;have a5:=za a0 a5;have ab:=za a0 ab;have ac:=za a0 ac;have ad:=za a0 ad;have ae:=za a0 ae;have af:=za a0 af;refine hK.out _ _ (QQ y0 (QQ y1 (QQ y2 (QQ y3 (QQ a2 (QQ a3 (QQ a6 (QQ a7 (QQ a8 (QQ a9 (QQ aa (QQ a4 (QQ a5 (QQ ab (QQ ac (QQ ad (QQ ae af))))))))))))))))) (fun hI=>?_);clear hK hH;have hH:=hI
   try simp only[lay]
   refine .tk 10 [22] hH ?_;cases f0 with
   | false=>
    have HR:=fh (show pt a=I from by rw[aw.out,aj.out];rfl);refine .sk 11 [22] hH ?_;refine .sk 12 [22] hH ?_;refine .sk 13 [22] hH ?_;refine .sk 14 [22] hH ?_;refine .sk 15 [22] hH ?_;refine .sk 16 [22] hH ?_;refine .sk 17 [22] hH ?_;refine .sk 18 [22] hH ?_;refine .sk 19 [22] hH ?_;refine .sk 20 [22] hH ?_;refine .tk 21 [22] hH ?_;refine fA.last (by kernel_rfl) rfl (by kernel_rfl) (fun K hK=>?_);go_simp;refine hK.out _ _ ?_;clear hK
    try simp only[lay]
    go_wp2_with(fail);go_ret;exact⟨zo (by rw[HR.out]),hG0.trans ag⟩
   | true=>
    have HR:=fh (show pt a=f1 from by rw[aw.out,aj.out,ax.out];simp);refine .tk 11 [22] hH ?_;refine .tk 12 [22] hH ?_;refine .tk 13 [22] hH ?_;refine .tk 14 [22] hH ?_;refine .tk 15 [22] hH ?_;refine .tk 16 [22] hH ?_;refine .tk 17 [22] hH ?_;refine .tk 18 [22] hH ?_;refine .tk 19 [22] hH ?_;refine fA.one (i:=20) (by kernel_rfl) rfl (fun K hK=>?_);go_simp;go_at_call 94;(with_reducible refine(zjx (i:=i1) (d:=d1) (Ty.up _ aU ag) (Ty.up _ aW ag) av).mono ?_);rw[ax.out];rintro e v2 ⟨rfl,a1⟩;have am:=ag.trans a1;have y0:=za a1 y0;have y1:=za a1 y1;have y2:=za a1 y2;have y3:=za a1 y3;have a2:=za a1 a2;have a3:=za a1 a3;have a6:=za a1 a6;have a7:=za a1 a7;have a8:=za a1 a8;have a9:=za a1 a9;have aa:=za a1 aa;have a4:=za a1 a4;have a5:=za a1 a5;have ab:=za a1 ab;have ac:=za a1 ac;have ad:=za a1 ad;have ae:=za a1 ae;have af:=za a1 af;refine hK.out _ _ (QQ y0 (QQ y1 (QQ y2 (QQ y3 (QQ a2 (QQ a3 (QQ a6 (QQ a7 (QQ a8 (QQ a9 (QQ aa (QQ a4 (QQ a5 (QQ ab (QQ ac (QQ ad (QQ ae af))))))))))))))))) (fun hI=>?_);clear hK hH;have hH:=hI
    try simp only[lay]
    refine .tk 21 [22] hH ?_;refine fA.last (by kernel_rfl) rfl (by kernel_rfl) (fun K hK=>?_);go_simp;refine hK.out _ _ ?_;clear hK
    try simp only[lay]
    go_wp2_with(fail);go_ret;exact⟨zo (by rw[HR.out]),hG0.trans am⟩
theorem Hp (x:N):x.toList.isEmpty=decide (x=emp):=by
 have h:=lp x emp
 have he:emp.toList = []:=by
  unfold ByteArray.toList;rw[ByteArray.toList.loop];rfl
 rw[he] at h;rw[<-h];cases x.toList <;> rfl
theorem N7 (h:fT t.Kind 0 7=I):lh t=I:=by
 cases hq:lh t with
 | false=>rfl
 | true=>
  unfold lh at hq
  have:fT t.Kind 0 7=M:=by
   rw[zu];split at hq
   ·omega
   ·split at hq
    ·omega
    ·split at hq
     ·omega
     ·rw[Q4,zu] at hq
      omega
  rw[h] at this;cases this
theorem Kp {a:Int} (h:a<0):mx xs a = -1:=by unfold mx;rw[Q5 h]
theorem Ko (xs:Q gB)(k:Nat):mx xs k=nV (xs.drop k) 1 k:=by unfold mx;rw[QZ (by omega),Ra]
theorem Nt {k:Nat} {x:gB} (h:xs[k]?=Z x)(m:Nat):nV (xs.drop k) (m+1) k=if lh x=M then nV (xs.drop (k+1)) (m+(jk x).toNat) (k+1) else -1:=by
 obtain⟨h1,rfl⟩:=QM.1 h;rw[Q6 h1];rfl
theorem zkn (hs:t.Name.size<=9223372036854775807):Rh prog 206 #[.agg #[J C t.Kind,J C t.gW,V t.Name]] w fun e w'=>e=.returned (H (lh t))/\ft w w':=by
 rcases RB (fT t.Kind 0 7) with hb | hb
 rotate_left
 ·have HB:=fh hb
  have HF:Hid (lh t=I):=fh (N7 hb);clear hb;go_enter func206,ntmps206;go_wp2_with(go_at_call 43;(with_reducible refine(gY _ _ _ _).mono ?_);rw[HB.out];rintro e w1 ⟨rfl,rfl⟩);go_ret;exact⟨zo HF.out.symm,gG⟩
 have HK:Hid (¬ t.Kind=0->¬ t.Kind=1->¬ t.Kind=7->fT t.Kind 2 6=M):=fh (fun h0 h1 h7=>by rw[zu] at hb |-;omega);go_enter func206,ntmps206;go_wp2_with(first | (go_at_call 43;(with_reducible refine(gY _ _ _ _).mono ?_);rintro e w1 ⟨rfl,rfl⟩) | (go_at_call 133;(with_reducible refine(qT _ _ hs).mono ?_);rintro e w1 ⟨rfl,rfl⟩))
 all_goals
  go_ret
  refine⟨zo ?_,gG⟩
  have a0:=HK.out
  clear HK
  unfold lh
  simp_all [Hp]
theorem zno (hs:t.Name.size<=9223372036854775807):Rh prog 207 #[.agg #[J C t.Kind,J C t.gW,V t.Name]] w fun e w'=>e=.returned (J C (jk t))/\ft w w':=by
 cases hq:lh t with
 | false=>
  have HQ:=fh hq;have HF:Hid (jk t = -1):=fh (by unfold jk;rw[hq];rfl);clear hq;go_enter func207,ntmps207;go_wp2_with(go_at_call 206;(with_reducible refine(zkn hs).mono ?_);rw[HQ.out];rintro e v1 ⟨rfl,hg⟩);go_ret;exact⟨nN HF.out.symm,ft.trans (b:=_) gF hg⟩
 | true=>
  have HQ:=fh hq;have HF:Hid (jk t=if t.Kind=7 then t.gW else if t.Kind=0∨t.Kind=1 then 0 else 2):=fh (by unfold jk;rw[Q5 hq]);clear hq;go_enter func207,ntmps207;have eb:=QO w (F #[J C t.Kind,J C t.gW,V t.Name] 160);go_wp2_with(go_at_call 206;(with_reducible refine(zkn hs).mono ?_);rw[HQ.out];rintro e v1 ⟨rfl,hg⟩;have eb:=zj eb (ft.trans (b:=_) gF hg);obtain⟨b0,b1,b2,_⟩:=jc eb)
  all_goals
   go_ret
   refine⟨nN ?_,ft.trans (b:=_) gF (ft.trans hg gF)⟩
   rw[HF.out]
   simp_all
theorem zi4 {a:Int} (hx:(iZ.sl 160).R w w.heap.size [G A xs.length c] xs)(ha:fD a)(hl:xs.length<=1099511627776) :
  Rh prog 200 #[G A xs.length c,J C a] w fun e w'=>e=.returned (J C (mx xs a))/\ft w w':=by
 by_cases ha0:a<0
 ·have HF:Hid (mx xs a = -1):=fh (Kp ha0)
  go_enter func200,ntmps200;go_wp2_with(fail);exact QU (v:=J C (-1)) (by simp[Rd,results200,go_sem]) rfl ⟨by rw[HF.out],gG⟩
 ·have a7:0<=a:=by omega
  obtain⟨k0,a4⟩:∃ k0:Nat,a=(k0:Int):=⟨a.toNat,by omega⟩
  subst a4;have a2:Hid (nV (xs.drop k0) 1 k0=mx xs k0):=fh (Ko xs k0).symm;go_enter func200,ntmps200;go_wp2_with(fail);go_loopw [5,1] (fun z q wr=>∃(nd k:Nat),z=J C nd/\q=J C k/\Hid (ft w wr)/\nd+4*(xs.length-k)<=4*xs.length+1/\(k:Int)<=9223372036854775807/\Hid (nV (xs.drop k) nd k=mx xs k0)) (fun _ q _=>xs.length-(Ry q).toNat)
  case atStart=>exact⟨1,k0,rfl,rfl,fh gG,by omega,ha.2,a2⟩
  case round=>
   obtain⟨nd,k,rfl,rfl,hG,ab,a6,hE⟩:=hrel;by_cases hp:0<nd
   ·have ac:(0:Int)<(nd:Int):=by omega
    obtain⟨m,rfl⟩:∃ m,nd=m+1:=⟨nd-1,by omega⟩
    by_cases hlt:k<xs.length
    ·obtain⟨g,ah,x,hA,a9,a1,x0,x1,x2,bk,bn,bs⟩:=tG hx hlt
     have aa:(k:Int)<(xs.length:Int):=by omega
     have a0:¬ ((xs.length:Int)<=(k:Int)):=by omega
     have a5:(0:Int)<=(k:Int):=by omega
     have x0:=za hG.out x0;have x1:=za hG.out x1;have x2:=za hG.out x2;have HA:=fh (Nt a1 m);clear a1;subst hA;cases ht:lh x with
     | false=>
      have HT:=fh ht;have HF:Hid (mx xs k0 = -1):=fh (by rw[<-hE.out,HA.out,ht];rfl);clear ht;go_wp2_with(first | (go_at_call 206;(with_reducible refine(zkn (t:=x) bs).mono ?_);rw[HT.out];rintro e v1 ⟨rfl,hg⟩));exact QU (v:=J C (-1)) (by simp[Rd,results200,go_sem]) rfl ⟨by rw[HF.out],hG.out.trans (ft.trans (b:=_) gF hg)⟩
     | true=>
      have HT:=fh ht;have a8:=Ar ht;have HB:Hid (nV (xs.drop (k+1)) (m+(jk x).toNat) (k+1)=mx xs k0):=fh (by rw[<-hE.out,HA.out,Q5 ht]);clear ht;have ad:QP C (jk x-1)=jk x-1:=iw;have ae:QP C (((m+1:Nat):Int)+(jk x-1))=((m+(jk x).toNat:Nat):Int):=by rw[show ((m+1:Nat):Int)+(jk x-1)=((m+(jk x).toNat:Nat):Int) from by omega];exact iw
      have af:QP C (((m+1:Nat):Int)-1)=((m+1:Nat):Int)-1:=iw;have ag:QP C (((m+1:Nat):Int)-1+jk x)=((m+(jk x).toNat:Nat):Int):=by rw[show ((m+1:Nat):Int)-1+jk x=((m+(jk x).toNat:Nat):Int) from by omega];exact iw
      go_wp2_with(first | (go_at_call 206;(with_reducible refine(zkn (t:=x) bs).mono ?_);rw[HT.out];rintro e v1 ⟨rfl,hg⟩;have x0:=za (ft.trans (b:=_) gF hg) x0;have x1:=za (ft.trans (b:=_) gF hg) x1;have x2:=za (ft.trans (b:=_) gF hg) x2) | (go_at_call 207;(with_reducible refine(zno (t:=x) bs).mono ?_);rintro e v2 ⟨rfl,a3⟩));go_roundw;exact⟨m+(jk x).toNat,k+1,by go_num,by go_num,fh (hG.out.trans ((ft.trans (b:=_) gF hg).trans ((ft.trans (b:=_) gF a3).trans gF))),by omega,by omega,HB⟩;exact gH
    ·have a0:((xs.length:Int)<=(k:Int)):=by omega
     have HF:Hid (mx xs k0 = -1):=fh (by rw[<-hE.out,SX (by omega)];rfl);go_wp2_with(fail);exact QU (v:=J C (-1)) (by simp[Rd,results200,go_sem]) rfl ⟨by rw[HF.out],hG.out.trans gG⟩
   ·obtain rfl:nd=0:=by omega
    have HF:Hid (mx xs k0=k):=fh (by rw[<-hE.out];cases xs.drop k <;> rfl);go_wp2_with(fail);exact QU (v:=J C (k:Int)) (by simp[Rd,results200,go_sem]) rfl ⟨by rw[HF.out],hG.out.trans gG⟩
theorem uQ {g:Prop} (f:g:=by
  go_enter func189,ntmps189
  go_wp2_with(fail)
  exact QU (v:=H I) (by simp[Rd,results189,go_sem]) rfl ⟨by rw[HF.out],gG⟩):g:=f
theorem zkN (hx:(iZ.sl 160).R w w.heap.size [G A xs.length c] xs)(hl:xs.length<=1099511627776) :
  Rh prog 189 #[G A xs.length c] w fun e w'=>e=.returned (H (py xs))/\ft w w':=by
 have a2:fD 0:=⟨by omega,by omega⟩
 have HD:Hid (py xs=(decide (0<xs.length) && (decide (xs.length<=20) && decide (mx xs 0=xs.length)))):=fh rfl;by_cases h0:0<xs.length
 ·have a1:(0:Int)<(xs.length:Int):=by omega
  by_cases h20:xs.length<=20
  ·have a0:(xs.length:Int)<=20:=by omega
   obtain⟨q,hq⟩:∃ q,mx xs 0=q:=⟨_,rfl⟩
   have HF:Hid (py xs=(q == (xs.length:Int))):=fh (by rw[HD.out,hq];simp only[h0,h20,decide_true,Tr];by_cases hh:q=(xs.length:Int) <;> simp[hh]);have HQ:=fh hq;clear hq;go_enter func189,ntmps189;go_wp2_with(first | (go_at_call 200;(with_reducible refine(zi4 (a:=0) (Ty.up _ hx gF) a2 hl).mono ?_);rw[HQ.out];rintro e v1 ⟨rfl,hg⟩));refine QU (v:=H (q == (xs.length:Int))) (by simp[Rd,results189,go_sem]) rfl ⟨by rw[HF.out],ft.trans (b:=_) gF (hg.trans gF)⟩
  ·have a0:¬ ((xs.length:Int)<=20):=by omega
   have HF:Hid (py xs=I):=fh (by rw[HD.out];simp[h20]);exact uQ
 ·have a1:¬ ((0:Int)<(xs.length:Int)):=by omega
  have a0:(xs.length:Int)<=20:=by omega
  have HF:Hid (py xs=I):=fh (by rw[HD.out];simp[h0]);exact uQ
def kJ (xs:Q Int)(w:U)(r:Ending)(w':U):Prop:=∃ A c S,r=.returned (G A xs.length c)/\Has (zr.sl 3) w' [G A xs.length c] xs S/\(∀ b∈S,w.heap.size<=b)/\ft w w'
theorem kJ.mk {xs ys:Q Int} {w':U} {n:Nat} {S:Q Nat} (h:Has (zr.sl 3) w' [G A n c] ys S)(he:ys=xs)(hn:n=ys.length)(hS:∀ b∈S,w.heap.size<=b)(hg:ft w w'):kJ xs w (.returned (G A n c)) w':=by
 subst he hn;exact⟨A,c,S,rfl,h,hS,hg⟩
theorem vA {g:Prop} (f:g:=by
  have h:=Sg List.length hd1
  rw[QR,ks.gj,SU] at h
  omega):g:=f
theorem zqG {a:Nat} {ks:gk} {rs:Q gB} (hx:(iZ.sl 160).R w w.heap.size [G A xs.length c] xs)(hl:xs.length<=1099511627776)(hw:(Ex.node t ks).wf)(hd:xs.drop a=(Ex.node t ks).flat++rs) :
  Rh prog 216 #[G A xs.length c,J C a] w (kJ (ks.gN (a+1)) w):=by
 obtain⟨aa,hd1⟩:=wO (show xs.drop a=t::(ks.flat++rs) from hd);have ap:a<xs.length:=(QM.1 aa).1;obtain⟨g,aH,x,hA,aq,a6,x0,x1,x2,bk,bn,bs⟩:=tG hx ap;obtain rfl:x=t:=by rw[aa] at a6;injection a6 with a6;exact a6.symm
 clear aa a6
 have aF:ks.size<=xs.length:=by
  exact vA
 have aB:=ks.kr;obtain⟨en,ad⟩:∃ en:Int,en=((a+(Ex.node x ks).size:Nat):Int):=⟨_,rfl⟩
 have HE:Hid (mx xs (a:Int)=en):=fh (by rw[ad];exact Cf hw hd);have a9:fD (a:Int):=⟨by omega,by omega⟩
 have ax:¬ (en<0):=by omega
 have ag:Hid (jk x=(ks.len:Int)):=fh hw.2.1;have ak:=fh hw.2.2;have ay:(a:Int)<(xs.length:Int):=by omega
 have ao:(0:Int)<=(a:Int):=by omega
 have az:QP C ((a:Int)+1)=(a:Int)+1:=iw;have ah:=fh hd1;have a0:=ft.refl w;clear hd hd1 hw ad;subst hA;go_enter func216,ntmps216;go_wp2_with(first | (go_at_call 200;(with_reducible refine(zi4 (xs:=xs) (a:=(a:Int)) (Ty.up _ hx gF) a9 hl).mono ?_);rw[HE.out];rintro e v1 ⟨rfl,hg⟩;have a0:=a0.trans (ft.trans (b:=_) gF hg);have aA:=QS aq a0.size;have x0:=za a0 x0;have x1:=za a0 x1;have x2:=za a0 x2) | (go_at_call 207;(with_reducible refine(zno (t:=x) bs).mono ?_);rw[ag.out];rintro e v2 ⟨rfl,ae⟩));have ab:ft w v2:=a0.trans (ft.trans (b:=_) gF ae);have aG:=a0.size;go_loopw [5,6,7] (fun z q j wr=>∃(nx:Nat) (ys:Q Int) (qs:gk) (A7:X Ri) (c7:Nat) (S:Q Nat),z=G A7 ys.length c7/\q=J C nx/\j=J C qs.len/\nx<=xs.length/\ys.length+qs.len<=xs.length/\Hid (ft w wr)/\Hid (Has (zr.sl 3) wr [G A7 ys.length c7] ys S)/\Hid (∀ b∈S,w.heap.size<=b)/\Hid qs.wf/\Hid (xs.drop nx=qs.flat++rs)/\Hid (ys++qs.gN nx=ks.gN (a+1))) (fun _ _ j _=>(Ry j).toNat)
 case atStart=>
  exact⟨a+1,[],ks,_,0,[w.heap.size],rfl,by go_num,rfl,by omega,by simp only[Ru];omega,fh (ab.trans gF),fh (Has.emp zr (zj (QO _ _) ((ft.trans (b:=_) gF hg).trans (ft.trans (b:=_) gF ae)))),fh (fun b hb=>by simp at hb;omega),ak,ah,fh rfl⟩
 case round=>
  obtain⟨nx,ys,qs,A7,c7,S,rfl,rfl,rfl,aE,a7,hG,hH,hS,a5,a3,hE⟩:=hrel
  match qs,a5,a3,hE,a7 with
  | .nil,a5,a3,hE,a7=>
   have HF:Hid (ys=ks.gN (a+1)):=fh (by have h:=hE.out;simpa[gk.gN] using h);have aw:¬ ((0:Int)<((gk.nil.len:Nat):Int)):=by simp[gk.len]
   go_wp2_with(fail);exact QU (v:=G A7 ys.length c7) (by simp[Rd,results216,go_sem]) rfl (kJ.mk hH.out HF.out rfl hS.out (hG.out.trans gG))
  | .cons ex q,a5,a3,hE,a7=>
   obtain⟨m,hm⟩:∃ m,q.len=m:=⟨_,rfl⟩
   have ac:(gk.cons ex q).len=m+1:=by simp only[gk.len,hm]
   have HM:=fh hm;rw[ac];have aC:(0:Int)<((m+1:Nat):Int):=by omega
   have aD:QP C (((m+1:Nat):Int)-1)=(m:Int):=by rw[show ((m+1:Nat):Int)-1=(m:Int) from by omega];exact iw
   have a8:xs.drop nx=ex.flat++(q.flat++rs):=by rw[a3.out];simp only[gk.flat,Rw]
   obtain⟨al,a1⟩:∃ en:Int,en=((nx+ex.size:Nat):Int):=⟨_,rfl⟩
   have HN:Hid (mx xs (nx:Int)=al):=fh (by rw[a1];exact Cf a5.out.1 a8);have a2:fD (nx:Int):=⟨by omega,by omega⟩
   have af:=a2
   have ar:nx+ex.size<=xs.length:=by
    have h:=Sg List.length a8;rw[QR,ex.gj,SU] at h;omega
   have ai:Hid (xs.drop (nx+ex.size)=q.flat++rs):=fh (by rw[<-TH,a8,<-ex.gj,Ul]);have aj:=fh a1;have av:ys.length+(m+1)<=xs.length:=by rw[<-ac];exact a7
   clear a8 a1 hm ac a7 a3;go_wp2_with(first | (refine zA (L:=ys.length+1) (y:=(nx:Int)) rfl (.tmp 25) (.tmp 27) mg zD (S:=S) (hH.out.fx gF) (ec:=[J C nx]) (W1:=w) (B:=w.heap.size) ⟨rfl,af.1,af.2⟩ rfl rfl rfl (by intro j u hu;simpa[go_sem] using hu) rfl (by omega) (by omega) ?_;intro A8 c8 W8 S8 au am an;have a4:ft w W8:=au.fx (hG.out.trans gF) hS.out) | (go_at_call 200;(with_reducible refine(zi4 (xs:=xs) (a:=(nx:Int)) (Ty.up _ hx (a4.trans gF)) a2 hl).mono ?_);rw[HN.out];rintro e v1 ⟨rfl,hg⟩));go_roundw
   case measure=>exact gH
   case rel=>
    refine⟨nx+ex.size,ys++[(nx:Int)],q,A8,c8,S8,by simp,by rw[aj.out],by rw[HM.out],ar,by rw[HM.out];simp only[QR,Rc,Ru];omega,fh (a4.trans (ft.trans (b:=_) gF (hg.trans gF))),fh (by rw[QR];exact am.fx (ft.trans (b:=_) gF (hg.trans gF))),fh (fun b hb=>?_),fh a5.out.2,ai,fh (by rw[<-hE.out];simp[gk.gN])⟩;rcases an b hb with h | h
    ·exact hS.out b h
    ·have:=hG.out.size;simp at h;omega
end Go.Proofs.YthgbglbaemelhaaGreat
