/-
  PART.
-/
import Derived.Test.YthgbglbaemelhaaGreatM12LawRecords
import Derived.StillTailTactics
set_option linter.unusedVariables false
set_option linter.unusedSimpArgs false
set_option maxRecDepth 100000
set_option maxHeartbeats 8000000
namespace Go.Proofs.YthgbglbaemelhaaGreat
open Value renaming slice->J,int->C,bool->X,string->Q
open IntKind renaming i64->Z
open Option renaming none->I,some->F
open Obj renaming cells->U
open Bool renaming false->M,true->H
open Go renaming World->V,results->VF,Calls->VK,Addr->VQ,TypeId->Wl,madeCells->WO,yielded->Xb,undef->Yd,Ending->Z9
open World renaming cell?->Vg,frozen?->VE,alloc->WJ
open _root_.Int renaming toNat_natCast->Vy
open List renaming replicate->VP,length_nil->VZ,nil_append->Wo,take_succ_cons->Wz,take_zero->Xk
open Region renaming wanted->V6,ready->Wv,noSelect->XV,Mode->XY,free->YI
open RowKit renaming intOf->Wj,wrap64->Xr
open _root_.Nat renaming add_zero->Wk
open Tryz
open Go.RowKit
variable {A A0 A1 A2:N VQ}{B:D (Nat × Obj)}{Ve c c0 c1 c2 g gc n n0 n1:Nat}{S:D Nat}{W Y b w:V}{a arg code th v v1 v3:Int}{b1 b2 b3 b5 bad:Bool}{es:D Int}{m m0 m1 m2 m3 m5:fF}{o:N fF}{s:gQ}
def oN (m:fF)(most:Int):ll:=if zO m=H/\0<=most then ⟨m.Pc,m.Sp,m.Fp,(m.fK.drop m.Sp.toNat).take most.toNat⟩ else ⟨0,0,0,[]⟩
theorem I0 (m:fF)(most:Int):(oN m most).gK.length<=1200:=by
 unfold oN;split
 ·rename_i h
  have:=h.1;simp only[zO,Vt,VD] at this;simp only[WK,WL];omega
 ·simp
theorem zss {v:ll} (hn:n=v.gK.length)(p0:fQ v.Pc)(p1:fQ v.Sp)(p2:fQ v.Fp)(h3:(zv.sl 3).R w w.heap.size [J A n c] v.gK)(hl:v.gK.length<=1099511627776) :
  VK prog 99 #[.agg #[C Z v.Pc,C Z v.Sp,C Z v.Fp,J A n c]] w (K5 v w):=by
 subst hn;go_enter func99,ntmps99;go_wp2_with(at_builtin;refine DU rfl (.tmp 3) (.tmp 5) me zI (yp (fy.refl _) gm) ((fy.refl _).alloc _) (Ty.up _ h3 gG) rfl rfl rfl (VJ _).symm fh fh ?_;intro B0 d0 os d hF);refine Vr (v:=.agg #[C Z v.Pc,C Z v.Sp,C Z v.Fp,J B0 v.gK.length d0]) (by simp[VF,results99,go_sem]) rfl ⟨B0,d0,rfl,?_,gG⟩;exact CD p0 p1 p2 (hF.mw.same (by repeat (first | with_reducible exact gV.refl _ _ _ | ((with_reducible refine gV.base ?_ ?_) <;> (simp <;> omega)) | ((with_reducible refine gV.more ?_ ?_ _ _);rotate_left;simp <;> omega) | ((with_reducible refine gV.alloc ?_ ?_ _);rotate_left;simp <;> omega) | with_reducible apply gV.drew | with_reducible apply gV.drewN))) (by simp;omega)
theorem zdP {x:fF} (p0:fQ x.Pc)(p1:fQ x.Sp)(p2:fQ x.Fp)(h3:(zv.sl 3).R w w.heap.size [J A0 x.fK.length c0] x.fK)(h4:(zv.sl 3).R w w.heap.size [J A1 x.iE.length c1] x.iE)(p5:fQ x.fY)(p6:fQ x.Value)(hs:mM x<=1099511627776) :
  VK prog 40 #[.agg #[C Z x.Pc,C Z x.Sp,C Z x.Fp,J A0 x.fK.length c0,J A1 x.iE.length c1,C Z x.fY,C Z x.Value]] w (Ho x w):=by
 unfold mM at hs;go_enter func40,ntmps40
 go_wp2_with(first
  | (at_builtin;refine DU rfl (.tmp 3) (.tmp 5) me zI (yp (fy.refl _) gm) ((fy.refl _).alloc _) (Ty.up _ h3 gG) rfl rfl rfl (VJ _).symm fh fh ?_;intro B0 d0 os d hF)
  | (at_builtin;refine DU rfl (.tmp 8) (.tmp 10) me zI (yp (fy.refl _) gm) ((fy.refl _).alloc _) (Ty.up _ h4 gG) rfl rfl rfl (VJ _).symm fh fh ?_;intro B1 d1 a1 d2 a0))
 refine Vr (v:=.agg #[C Z x.Pc,C Z x.Sp,C Z x.Fp,J B0 x.fK.length d0,J B1 x.iE.length d1,C Z x.fY,C Z x.Value]) (by simp[VF,results40,go_sem]) rfl ⟨B0,d0,B1,d1,rfl,?_,gG⟩;exact DY p0 p1 p2 (hF.mw.same (by repeat (first | with_reducible exact gV.refl _ _ _ | ((with_reducible refine gV.base ?_ ?_) <;> (simp <;> omega)) | ((with_reducible refine gV.more ?_ ?_ _ _);rotate_left;simp <;> omega) | ((with_reducible refine gV.alloc ?_ ?_ _);rotate_left;simp <;> omega) | with_reducible apply gV.drew | with_reducible apply gV.drewN))) (a0.mw.same (by repeat (first | with_reducible exact gV.refl _ _ _ | ((with_reducible refine gV.base ?_ ?_) <;> (simp <;> omega)) | ((with_reducible refine gV.more ?_ ?_ _ _);rotate_left;simp <;> omega) | ((with_reducible refine gV.alloc ?_ ?_ _);rotate_left;simp <;> omega) | with_reducible apply gV.drew | with_reducible apply gV.drewN))) p5 p6 (by simp <;> omega) (by simp <;> omega) (by simp <;> omega)
theorem Ha (w W:V)(h:w.heap.size<=W.heap.size):gH tJ w W [C Z 0,C Z 0,C Z 0,J I 0 0] ⟨0,0,0,[]⟩:=
 CD (x:=⟨0,0,0,[]⟩) ⟨gv,gv⟩ ⟨gv,gv⟩ ⟨gv,gv⟩ (yC W W).mw h
theorem wT {g:Prop} (f:g:=by
  clear hb
  go_enter func61,ntmps61
  go_wp2_with(go_at_call 46;refine(zfd (m:=m) hs).mono ?_;rw[HB.out];rintro e w1 ⟨rfl,os1,d1,rfl⟩)
  rw[HQ.out]
  exact Vr (v:=.agg #[C Z 0,C Z 0,C Z 0,J I 0 0]) (by simp[VF,results61,go_sem]) rfl ⟨I,0,rfl,Ha _ _ (by simp <;> omega),gG⟩):g:=f
theorem zxB {most:Int} (p0:fQ m.Pc)(p1:fQ m.Sp)(p2:fQ m.Fp)(h3:(zv.sl 3).R w w.heap.size [J A0 m.fK.length c0] m.fK)(hs:m.fK.length<=1099511627776)(hm:fQ most) :
  VK prog 61 #[.agg #[C Z m.Pc,C Z m.Sp,C Z m.Fp,J A0 m.fK.length c0,J A1 m.iE.length c1,C Z m.fY,C Z m.Value],C Z most] w (K5 (oN m most) w):=by
 obtain⟨b,hb⟩:∃ b,zO m=b:=⟨_,rfl⟩
 have HB:=fk hb;cases b with
 | false=>
  have HQ:=fk (show oN m most=⟨0,0,0,[]⟩ from by unfold oN;rw[hb];simp);exact wT
 | true=>
  by_cases hq:most<0
  ·have HQ:=fk (show oN m most=⟨0,0,0,[]⟩ from by unfold oN;rw[Vo fh])
   have r0:decide (most<0)=H:=Vv hq;exact wT
  have r0:decide (most<0)=M:=Vp hq;obtain⟨k,rfl⟩:=VI (show 0<=most from fh);have a2:=hb;simp only[zO,Vt,VD] at a2;have aa:=zr.1 a2.1.2;have ab:=a2.1.1;obtain⟨pc,av,fp,a0,out,st,vl⟩:=m;simp only at *
  obtain⟨sp,rfl⟩:=VI aa.1;have HQ:=fk (show oN ⟨pc,(sp:Int),fp,a0,out,st,vl⟩ (k:Int)=⟨pc,(sp:Int),fp,(a0.drop sp).take k⟩ from by unfold oN;rw[Vs ⟨hb,fh⟩];rfl);obtain⟨ws,a3⟩:∃ ws,(a0.drop sp).take k=ws:=⟨_,rfl⟩
  rw[a3] at HQ;clear hb a2;have q1:(sp:Int)<=1200:=aa.2;obtain⟨_,_,ak,au,aq⟩:=mQ h3;injection ak with e1 e2 e3
  subst e1 e3;clear e2;obtain⟨B9,a9,hd⟩:=FR (P:=prog) me h3 (k:=sp) fh;obtain⟨L,hL⟩:∃ L,a0.length-sp=L:=⟨_,rfl⟩
  rw[hL] at a9 hd;have ae:(a0.drop sp).length=L:=by rw[WL];exact hL
  obtain⟨mn,ag,af,a6⟩:∃ mn:Nat,(if (L:Int)<(k:Int) then (L:Int) else (k:Int))=(mn:Int)/\mn<=L/\(a0.drop sp).take mn=(a0.drop sp).take k:=by
   by_cases h:k<=L
   ·exact⟨k,Vo fh,h,rfl⟩
   ·exact⟨L,Vs fh,Vz _,by rw[WE fh,WE fh]⟩
  have ah:(if L<k then (L:Int) else (k:Int))=(mn:Int):=by rw[<-ag];by_cases h:L<k <;> simp[h]
  obtain⟨ai,a5⟩:=KG (P:=prog) me hd af;rw[a6,a3] at a5;have a8:mn=ws.length:=by rw[<-a3,<-a6,WK];omega
  have ac:=fk a8;have ap:=fk ab;have aj:ws.length<=1099511627776:=fh;clear ab ae a6 hL a8 h3 a3;go_enter func61,ntmps61;go_wp2_with(go_at_call 46;refine(zfd (m:=⟨pc,(sp:Int),fp,a0,out,st,vl⟩) hs).mono ?_;rw[HB.out];rintro e w1 ⟨rfl,os1,d1,rfl⟩);have a1:fy w (fH ((w.alloc (U #[C Z pc,C Z (sp:Int),C Z fp,J A0 a0.length c0,J A1 out.length c1,C Z st,C Z vl] 41)).alloc (U #[C Z 0,C Z 0,C Z 0,J I 0 0] 49)) os1 d1):=gG;have eb:(fH ((w.alloc (U #[C Z pc,C Z (sp:Int),C Z fp,J A0 a0.length c0,J A1 out.length c1,C Z st,C Z vl] 41)).alloc (U #[C Z 0,C Z 0,C Z 0,J I 0 0] 49)) os1 d1).heap[w.heap.size]?=F (U #[C Z pc,C Z (sp:Int),C Z fp,J A0 a0.length c0,J A1 out.length c1,C Z st,C Z vl] 41 (0,0)):=zj (Vj w _) gF;have er:(fH ((w.alloc (U #[C Z pc,C Z (sp:Int),C Z fp,J A0 a0.length c0,J A1 out.length c1,C Z st,C Z vl] 41)).alloc (U #[C Z 0,C Z 0,C Z 0,J I 0 0] 49)) os1 d1).heap[w.heap.size+1]?=F (U #[C Z 0,C Z 0,C Z 0,J I 0 0] 49 (0,0)):=zj (show ((w.alloc (U #[C Z pc,C Z (sp:Int),C Z fp,J A0 a0.length c0,J A1 out.length c1,C Z st,C Z vl] 41)).alloc (U #[C Z 0,C Z 0,C Z 0,J I 0 0] 49)).heap[w.heap.size+1]?=_ from by have h:=Vj (w.alloc (U #[C Z pc,C Z (sp:Int),C Z fp,J A0 a0.length c0,J A1 out.length c1,C Z st,C Z vl] 41)) (U #[C Z 0,C Z 0,C Z 0,J I 0 0] 49);rw[VH] at h;exact h) gF;have a7:=Ty.up _ a5 a1;obtain⟨g,hg⟩:∃ g,w.heap.size=g:=⟨_,rfl⟩
  rw[hg] at eb er |-;generalize (fH ((w.alloc _).alloc _) os1 d1)=Y at a1 eb er a7 |-;obtain⟨y0,y1,y2,y3,y4,y5,y6,_,yl⟩:=jb eb;obtain⟨z0,z1,z2,z3,zf⟩:=DM er;have zl:=(blt er)
  have ar:g≠g+1:=fh;clear a9 hd a5
  go_region_held3 (fun w'=>Vg w' ⟨g,0,I⟩=F (C Z pc)/\Vg w' ⟨g,1,I⟩=F (C Z (sp:Int))/\Vg w' ⟨g,2,I⟩=F (C Z fp)) ((repeat' apply Vm) <;> ((repeat (first | with_reducible assumption | with_reducible refine zd ?_ _ _ | with_reducible refine zq ?_ _ | with_reducible refine zc ?_ | with_reducible refine BL ?_ ?_));done)) (first
   | (go_at_call 99;refine(zss (v:=⟨pc,(sp:Int),fp,ws⟩) ac.out p0 p1 p2 (Ty.up _ a7 gG) aj).mono ?_;rintro e w2 ⟨Bv,cv,rfl,ad,a4,d2,rfl⟩))
  go_wp2_with(fail);rw[HQ.out];have h2:=wj er (C Z pc) (C Z (sp:Int)) (C Z fp) (J Bv ws.length cv);obtain⟨r0,r1,r2,r3,_⟩:=DM h2.1;have al:=zd r0 a4 d2;have am:=zd r1 a4 d2;have an:=zd r2 a4 d2;have ao:=zd r3 a4 d2;exact Vr (v:=.agg #[C Z pc,C Z (sp:Int),C Z fp,J Bv ws.length cv]) (by simp[VF,results61,go_sem,al,am,an,ao]) rfl ⟨Bv,cv,rfl,((ad.mw.same (by repeat (first | with_reducible exact gV.refl _ _ _ | ((with_reducible refine gV.base ?_ ?_) <;> (simp <;> omega)) | ((with_reducible refine gV.more ?_ ?_ _ _);rotate_left;simp <;> omega) | ((with_reducible refine gV.alloc ?_ ?_ _);rotate_left;simp <;> omega) | with_reducible apply gV.drew | with_reducible apply gV.drewN))).ri (by have:=a1.size;simp;omega)).fresh,((h2.2.fH a1 (fun b hb=>by simp at hb;omega))).trans gF⟩
section
variable {P:Program} {ops:Array Oper} {Vc:Exit->Act->V->Prop} {md:XY} {S:V->Prop} {m:Nat}
theorem fL.st (i:Nat)(cs:D Nat){oi:Oper}{v:Value}{f:Nat}{listed:Array Bool}{a:Act}{w:V}(hS:S w)(h:fL P md ops Vc S m f (listed.setIfInBounds i H) (a.put oi.dst v) w)
  (hr:(Wv md ops listed).contains i=H:=by kernel_rfl) (hi:ops[i]?=F oi:=by exact rfl) (hsel:XV ops=H:=by kernel_rfl) (hf:YI md ops listed i=H:=by kernel_rfl) (hlk:sO md ops m i cs=H:=by kernel_rfl) (hne:cs.isEmpty=M:=by exact rfl) (hun:vB listed cs=H:=by kernel_rfl)
  (hQ:∀ c a w,Vc (.panic c) (a.put oi.dst v) w->Vc (.panic c) a w:=by exact fun _ _ _ h=>h) (hw:V6 oi (Xb ops a.tmps)=H:=by first | rfl | kernel_rfl) (hy:∀ w,S w->(execOp a.eval oi).run P w=.ok (.value v) w:=by intro w hSw;(try dsimp only at hSw);go_simp;(try with_reducible rfl)):fL P md ops Vc S m (f+1) listed a w:=
 fL.take hi hsel hf hr hlk hne hun hQ hS hw hy h
theorem fL.s1 (i:Nat){o:Oper}{f:Nat}{listed:Array Bool}{a:Act}{w:V}(h:∀ K:Act->V->Prop,Hid (∀ a w,S w->fL P md ops Vc S m f (listed.setIfInBounds i H) a w->K a w)->if V6 o (Xb ops a.tmps)=H then Oper.wp P o a w K Vc else K (a.put o.dst Yd) w)
  (hr:Wv md ops listed = [i]:=by kernel_rfl) (ho:ops[i]?=F o:=by exact rfl):fL P md ops Vc S m (f+1) listed a w:=.iQ hr ho h
theorem fL.s2 (i j:Nat){o o2:Oper}{f:Nat}{listed:Array Bool}{a:Act}{w:V}
  (h:∀ K:Act->V->Prop,Hid (∀ a w,S w->fL P md ops Vc S m f (listed.setIfInBounds i H) a w->K a w)->if V6 o (Xb ops a.tmps)=H then Oper.wp P o a w K Vc else K (a.put o.dst Yd) w)
  (h2:∀ K:Act->V->Prop,Hid (∀ a w,S w->fL P md ops Vc S m f (listed.setIfInBounds j H) a w->K a w)->if V6 o2 (Xb ops a.tmps)=H then Oper.wp P o2 a w K Vc else K (a.put o2.dst Yd) w)
  (hr:Wv md ops listed = [i,j]:=by kernel_rfl) (ho:ops[i]?=F o:=by exact rfl) (ho2:ops[j]?=F o2:=by exact rfl):fL P md ops Vc S m (f+1) listed a w:=.s7 hr ho ho2 h h2
theorem fL.s3 (i j l:Nat){o o2 o3:Oper}{f:Nat}{listed:Array Bool}{a:Act}{w:V}
  (h:∀ K:Act->V->Prop,Hid (∀ a w,S w->fL P md ops Vc S m f (listed.setIfInBounds i H) a w->K a w)->if V6 o (Xb ops a.tmps)=H then Oper.wp P o a w K Vc else K (a.put o.dst Yd) w)
  (h2:∀ K:Act->V->Prop,Hid (∀ a w,S w->fL P md ops Vc S m f (listed.setIfInBounds j H) a w->K a w)->if V6 o2 (Xb ops a.tmps)=H then Oper.wp P o2 a w K Vc else K (a.put o2.dst Yd) w)
  (h3:∀ K:Act->V->Prop,Hid (∀ a w,S w->fL P md ops Vc S m f (listed.setIfInBounds l H) a w->K a w)->if V6 o3 (Xb ops a.tmps)=H then Oper.wp P o3 a w K Vc else K (a.put o3.dst Yd) w)
  (hr:Wv md ops listed = [i,j,l]:=by kernel_rfl) (ho:ops[i]?=F o:=by exact rfl) (ho2:ops[j]?=F o2:=by exact rfl) (ho3:ops[l]?=F o3:=by exact rfl):fL P md ops Vc S m (f+1) listed a w:=.Bg hr ho ho2 ho3 h h2 h3
theorem fL.sl {o:Oper} {f:Nat} {listed:Array Bool} {a:Act} (h:∀ K:Act->V->Prop,Hid (∀ a w,Vc .normal a w->K a w)->if V6 o (Xb ops a.tmps)=H then Oper.wp P o a w K Vc else K (a.put o.dst Yd) w)
  (hr:Wv md ops listed = [m]:=by kernel_rfl) (ho:ops[m]?=F o:=by exact rfl) (hd:Wv md ops (listed.setIfInBounds m H) = []:=by kernel_rfl):fL P md ops Vc S m (f+1) listed a w:=.last hr ho hd h
end
theorem Rq {L:D Nat} {a:V} (h:fG (S++L) a b)(hL:∀ k∈L,a.heap.size<=k):fG S a b:=by
 obtain⟨h1,h2,h3,h4,h5⟩:=h;refine⟨h1,h2,h3,h4,fun k hk hn=>h5 k hk (fun hm=>?_)⟩;rcases VA.1 hm with hm | hm
 ·exact hn hm
 ·have:=hL k hm;omega
theorem Fb {Y1 Y2:V} {g3:Nat} (ho:fG [g3] Y1 Y)(hg:fy Y Y2)(hon:fG S Y2 W)(hS:∀ b∈S,Y1.heap.size<=b)(j:Nat)(v:Value):fG [g3] Y1 (W.setCell ⟨g3,j,I⟩ v):=
 (Rq (((ho.trans (hg.only [g3])).mono (S':=[g3]++S) (fun k hk=>VN _ hk)).trans (hon.mono (fun k hk=>VV _ hk))) hS).setCell (p:=⟨g3,j,I⟩) gm v
theorem uz {a:V} (h:fy a b){p:VQ}{v:Value}(hp:a.cell? p=F v):b.cell? p=F v:=by
 obtain⟨os,d,rfl⟩:=h;exact zd hp os d
theorem zqq {x:ii} (p0:x.Code.size<=9223372036854775807)(h1:(kr.sl 137).R w w.heap.size [J A x.fq.length c] x.fq)(hl:x.fq.length<=1099511627776) :
  VK prog 107 #[.agg #[Q x.Code,J A x.fq.length c]] w (R4 x w):=by
 go_enter func107,ntmps107;go_wp2_with(fail);have a4:fy w ((w.alloc (U #[Q x.Code,J A x.fq.length c] 103)).alloc (U #[Q ⟨#[]⟩,J I 0 0] 103)):=gG;have eb:((w.alloc (U #[Q x.Code,J A x.fq.length c] 103)).alloc (U #[Q ⟨#[]⟩,J I 0 0] 103)).heap[w.heap.size]?=F (U #[Q x.Code,J A x.fq.length c] 103 (0,0)):=zj (Vj w _) gF;have er:((w.alloc (U #[Q x.Code,J A x.fq.length c] 103)).alloc (U #[Q ⟨#[]⟩,J I 0 0] 103)).heap[w.heap.size+1]?=F (U #[Q ⟨#[]⟩,J I 0 0] 103 (0,0)):=by have h:=Vj (w.alloc (U #[Q x.Code,J A x.fq.length c] 103)) (U #[Q ⟨#[]⟩,J I 0 0] 103);rw[VH] at h;exact h
 have hd:=Ty.up _ h1 a4;obtain⟨g,hg⟩:∃ g,w.heap.size=g:=⟨_,rfl⟩
 rw[hg] at eb er |-;generalize ((w.alloc _).alloc _)=Y at a4 eb er hd |-;obtain⟨y0,y1,_,_,yl⟩:=mI eb;obtain⟨z0,z1,ag,ah,zl⟩:=mI er;have af:g≠g+1:=fh;have a8:g≠Y.heap.size:=fh;have a6:g+1≠Y.heap.size:=fh;clear h1
 go_region_held3 (fun w'=>Vg w' ⟨g,0,I⟩=F (Q x.Code)/\Vg w' ⟨g,1,I⟩=F (J A x.fq.length c)) ((repeat' apply Vm) <;> ((repeat (first | with_reducible assumption | with_reducible refine zd ?_ _ _ | with_reducible refine zq ?_ _ | with_reducible refine zc ?_ | with_reducible refine BL ?_ ?_));done)) (first
  | (refine rj (L:=x.fq.length) rfl (.tmp 5) (.tmp 7) FJ EF (S:=[Y.heap.size]) (Has.iK kr (Vj _ _)) (Ty.up _ hd gG) rfl rfl rfl (VJ _).symm fh fh ?_;intro A7 c7 W7 S7 a5 ab ac;have e7:=Da er gF a5 (by simpa using a6);have q0:=zE y0 gF a5 (by simpa using a8);have q1:=zE y1 gF a5 (by simpa using a8);obtain⟨a0,a1,a2,a3,_⟩:=mI e7;have ad:=(blt e7)))
 go_wp2_with(fail);have h2:=tM e7 (Q x.Code) (J A7 x.fq.length c7);obtain⟨r0,r1,_,_,_⟩:=mI h2.1;have ae:=a4.size;have aa:fy Y W7:=a5.fH (W0:=Y) gF (fun b hb=>by simp at hb;omega)
 have a9:∀ b∈S7,Y.heap.size<=b:=fun b hb=>by
  rcases ac b hb with h | h
  ·simp at h;omega
  ·simp at h;omega
 have a7:=ab.gu h2.2 (fun b hb hm=>by have:=a9 b hb;simp at hm;omega);rw[Wo] at a7;exact Vr (v:=.agg #[Q x.Code,J A7 x.fq.length c7]) (by simp[VF,results107,go_sem,r0,r1]) rfl ⟨A7,c7,rfl,Nv p0 (Has.fresh (w:=w) a7 (fun b hb=>by have:=a9 b hb;omega)).mw (Vz _),h2.2.fH (a4.trans aa) (fun b hb=>by simp at hb;omega)⟩
theorem yg {g:Prop} (f:g:=by
  rcases hS7 b hb' with h | h | h
  ·exact hS.out b h
  ·have h8:wr.heap.size<=b:=hly b h
   omega
  ·have:=hGo.size;omega):g:=f
theorem zhM (h0:(jS.sl 103).R w w.heap.size [J A0 s.fw.length c0] s.fw)(h1:(zv.sl 3).R w w.heap.size [J A1 s.fD.length c1] s.fD)
  (h2:(zv.sl 3).R w w.heap.size [J A2 s.fm.length c2] s.fm) (hs:my s<=1099511627776) :
  VK prog 72 #[.agg #[J A0 s.fw.length c0,J A1 s.fD.length c1,J A2 s.fm.length c2]] w (R9 s w):=by
 have aG:s.fD.length<=1099511627776:=by unfold my at hs;omega
 have aH:s.fm.length<=1099511627776:=by unfold my at hs;omega
 go_enter func72,ntmps72;go_upto_region 1 with(fail);have a7:fy w ((w.alloc (U #[J A0 s.fw.length c0,J A1 s.fD.length c1,J A2 s.fm.length c2] 28)).alloc (U #[J I 0 0,J I 0 0,J I 0 0] 28)):=gG;have eb:((w.alloc (U #[J A0 s.fw.length c0,J A1 s.fD.length c1,J A2 s.fm.length c2] 28)).alloc (U #[J I 0 0,J I 0 0,J I 0 0] 28)).heap[w.heap.size]?=F (U #[J A0 s.fw.length c0,J A1 s.fD.length c1,J A2 s.fm.length c2] 28 (0,0)):=zj (Vj w _) gF;have er:((w.alloc (U #[J A0 s.fw.length c0,J A1 s.fD.length c1,J A2 s.fm.length c2] 28)).alloc (U #[J I 0 0,J I 0 0,J I 0 0] 28)).heap[w.heap.size+1]?=F (U #[J I 0 0,J I 0 0,J I 0 0] 28 (0,0)):=by have h:=Vj (w.alloc (U #[J A0 s.fw.length c0,J A1 s.fD.length c1,J A2 s.fm.length c2] 28)) (U #[J I 0 0,J I 0 0,J I 0 0] 28);rw[VH] at h;exact h
 have am:=Ty.up _ h0 a7;have an:=Ty.up _ h1 a7;have ao:=Ty.up _ h2 a7;obtain⟨g,hg⟩:∃ g,w.heap.size=g:=⟨_,rfl⟩
 rw[hg] at eb er |-;generalize ((w.alloc _).alloc _)=Y at a7 eb er am an ao |-;obtain⟨y0,y1,y2,_,yl⟩:=kL eb;have zl:=(kL er).2.2.2.2;clear h0 h1 h2;go_cut [3] from 3 to 13 (fun v3 wx=>∃(g3:Nat) (B1 B2:N VQ) (d1 d2:Nat) (S1 S2:D Nat),v3=.pointer (F ⟨g3,0,I⟩)/\J3 zv zv 3 3 Y wx (J B1 s.fD.length d1) (J B2 s.fm.length d2) s.fD s.fm S1 S2 g3 (U #[J I 0 0,J B1 s.fD.length d1,J B2 s.fm.length d2] 28 (0,0))/\Y.heap.size<=g3)
 case first=>
  refine lO (fun w'=>Vg w' ⟨g,1,I⟩=F (J A1 s.fD.length c1)/\Vg w' ⟨g,2,I⟩=F (J A2 s.fm.length c2)) 10 gU ⟨zc y1,zc y2⟩ (fun hH=>?_);have HJ:=J3.start (T:=zv) (U7:=zv) (e:=3) (f:=3) er;have HJ:=HJ.fH ((fy.refl _).drew);generalize hYd:Y.drew=Wx at HJ hH |-;clear hYd
  repeat' first
   | (clear M3
      refine rj (L:=s.fD.length) rfl (.tmp 5) (.tmp 7) me zI HJ.ha (Ty.up _ an HJ.hg) rfl rfl rfl (VJ _).symm fh fh ?_
      intro B1 d1 W1 S1 a4 hH hS
      rw[Wo] at hH
      have HJ:=HJ.rO a4 hH hS
      refine hK.out _ _ ⟨HJ.cell y1,HJ.cell y2⟩ ?_
      clear hK
      have D3:=trivial
      try simp only[iI])
   | (clear M7
      refine rj (L:=s.fm.length) rfl (.tmp 9) (.tmp 11) me zI HJ.hb (Ty.up _ ao HJ.hg) rfl rfl rfl (VJ _).symm fh fh ?_
      intro B2 d2 W2 S2 a4 hH hS
      rw[Wo] at hH
      have HJ:=HJ.DP a4 hH hS
      refine hK.out _ _ ⟨HJ.cell y1,HJ.cell y2⟩ ?_
      clear hK
      have D7:=trivial
      try simp only[iI])
   | (clear M0
      go_simp
      have HJ:=HJ.nM
      refine hK.out _ _ ⟨HJ.cell y1,HJ.cell y2⟩ ?_
      clear hK
      generalize WJ _ (U #[] 3)=Wx at HJ |-
      have D0:=trivial
      try simp only[iI])
   | (clear M4
      go_simp
      have HJ:=HJ.lu
      refine hK.out _ _ ⟨HJ.cell y1,HJ.cell y2⟩ ?_
      clear hK
      generalize WJ _ (U #[] 3)=Wx at HJ |-
      have D4:=trivial
      try simp only[iI])
   | (clear M9
      go_simp
      have ab:=HJ.hg.size
      have HJ:=HJ.mV (cs:=#[J I 0 0,J I 0 0,J I 0 0]) (t:=28)
      refine hK.out _ _ ⟨HJ.cell y1,HJ.cell y2⟩ ?_
      clear hK
      generalize WJ _ (U #[J I 0 0,J I 0 0,J I 0 0] 28)=Wx at HJ |-
      have D9:=trivial
      try simp only[iI])
   | ((fail_if_success clear T1);refine fL.st 1 [10] ⟨HJ.cell y1,HJ.cell y2⟩ ?_;have T1:=trivial;try simp only[iI])
   | ((fail_if_success clear T2);refine fL.st 2 [10] ⟨HJ.cell y1,HJ.cell y2⟩ ?_;have T2:=trivial;try simp only[iI])
   | ((fail_if_success clear T5);refine fL.st 5 [10] ⟨HJ.cell y1,HJ.cell y2⟩ ?_;have T5:=trivial;try simp only[iI])
   | ((fail_if_success clear T6);refine fL.st 6 [10] ⟨HJ.cell y1,HJ.cell y2⟩ ?_;have T6:=trivial;try simp only[iI])
   | ((fail_if_success clear T8);revert D0 D3 D4 D7;intro D0 D3 D4 D7;refine fL.st 8 [10] ⟨HJ.cell y1,HJ.cell y2⟩ ?_;have T8:=trivial;try simp only[iI])
   | (revert D0 D3 D4 D7 D9;intro D0 D3 D4 D7 D9
      refine fL.sl (fun K hK=>?_)
      obtain⟨o0,o1,o2,of,ol⟩:=kL HJ.ho
      go_simp
      refine hK.out _ _ ?_
      clear hK
      try simp only[iI]
      have h2:=vA HJ.ho (J I 0 0) (J B1 s.fD.length d1) (J B2 s.fm.length d2)
      have HJ:=HJ.store h2.2 h2.1 ab
      go_wp2_with(fail)
      go_meet
      exact⟨_,B1,B2,d1,d2,S1,S2,rfl,HJ,ab⟩)
   | (revert D0 D3 D4 D7;intro D0 D3 D4 D7;refine fL.s1 9 (fun K hK=>(fun M9:True=>?_) trivial))
   | (revert D0 D3 D4 D9;intro D0 D3 D4 D9;refine fL.s1 7 (fun K hK=>(fun M7:True=>?_) trivial))
   | (revert D0 D3 D4;intro D0 D3 D4;refine fL.s2 7 9 (fun K hK=>(fun M7:True=>?_) trivial) (fun K hK=>(fun M9:True=>?_) trivial))
   | (revert D0 D3 D9;intro D0 D3 D9;refine fL.s1 4 (fun K hK=>(fun M4:True=>?_) trivial))
   | (revert D0 D4 D9;intro D0 D4 D9;refine fL.s1 3 (fun K hK=>(fun M3:True=>?_) trivial))
   | (revert D0 D3;intro D0 D3;refine fL.s2 4 9 (fun K hK=>(fun M4:True=>?_) trivial) (fun K hK=>(fun M9:True=>?_) trivial))
   | (revert D0 D4;intro D0 D4;refine fL.s2 3 9 (fun K hK=>(fun M3:True=>?_) trivial) (fun K hK=>(fun M9:True=>?_) trivial))
   | (revert D0 D9;intro D0 D9;refine fL.s2 3 4 (fun K hK=>(fun M3:True=>?_) trivial) (fun K hK=>(fun M4:True=>?_) trivial))
   | (revert D4 D9;intro D4 D9;refine fL.s1 0 (fun K hK=>(fun M0:True=>?_) trivial))
   | (revert D0;intro D0;refine fL.s3 3 4 9 (fun K hK=>(fun M3:True=>?_) trivial) (fun K hK=>(fun M4:True=>?_) trivial) (fun K hK=>(fun M9:True=>?_) trivial))
   | (revert D4;intro D4;refine fL.s2 0 9 (fun K hK=>(fun M0:True=>?_) trivial) (fun K hK=>(fun M9:True=>?_) trivial))
   | (revert D9;intro D9;refine fL.s2 0 4 (fun K hK=>(fun M0:True=>?_) trivial) (fun K hK=>(fun M4:True=>?_) trivial))
   | (refine fL.s3 0 4 9 (fun K hK=>(fun M0:True=>?_) trivial) (fun K hK=>(fun M4:True=>?_) trivial) (fun K hK=>(fun M9:True=>?_) trivial))
 case rest=>
  obtain⟨g3,B1,B2,d1,d2,S1,S2,rfl,HJ,ab⟩:=hcut;have ay:g≠g3:=fh;have aI:=(blt HJ.ho)
  have aJ:s.fw.length<=1099511627776:=by unfold my nQ at hs;omega
  have aD:=HJ.cell y0;go_wp2_with(fail);go_loopw [4] (fun z wr=>∃(j:Nat) (A:N VQ) (c:Nat) (S:D Nat),z=C Z j/\j<=s.fw.length/\Hid (fG [g3] wc wr)/\Hid (wr.heap[g3]?=F (U #[J A j c,J B1 s.fD.length d1,J B2 s.fm.length d2] 28 (0,0)))/\Hid (Has (jS.sl 103) wr [J A j c] (s.fw.take j) S)/\Hid (∀ b∈S,wc.heap.size<=b)) (fun z _=>s.fw.length-(Wj z).toNat)
  case atStart=>exact⟨0,I,0,[],rfl,Vu _,fk (fG.refl _ _),fk HJ.ho,fk (Has.nil _ _ _),fk gm⟩
  case round=>
   obtain⟨j,A,c,S,rfl,hj,ho,hb,hH,hS⟩:=hrel;have a6:fy Y wr:=ho.out.fH HJ.hg (fun b hb=>by simp at hb;omega);have aK:wc.heap.size<=wr.heap.size:=ho.out.size;have k0:=uz a6 y0;obtain⟨o0,o1,o2,of,ol⟩:=kL hb.out;obtain⟨z0,z1,z2,zf,aL⟩:=kL (zj er a6);by_cases hlt:j<s.fw.length
   ·have aw:=am
    obtain⟨gI,ad,x,Ax,cx,rfl,aF,ar,m0,m1,p0,aA⟩:=vh aw hlt;have n0:=uz a6 m0;have n1:=uz a6 m1;have ac:=Ty.up _ aA a6;have az:(j:Int)<(s.fw.length:Int):=fh;have aC:x.fq.length<=1099511627776:=by have h2:x.fq.length<=oK x:=(by unfold oK nQ;omega);have h1:=yD oK ar;unfold my at hs;omega
    have ax:gI≠g3:=fh;go_upto_region 5 with(fail);refine lO (fun w'=>Vg w' ⟨g,0,I⟩=F (J (F ⟨gI,ad,I⟩) s.fw.length c0)/\Vg w' ⟨g3,0,I⟩=F (J A j c)/\Vg w' ⟨gI,ad+j*2,I⟩=F (Q x.Code)/\Vg w' ⟨gI,ad+j*2+1,I⟩=F (J Ax x.fq.length cx)) 11 gU (Vm (zc k0) (Vm (zc o0) (Vm (zc n0) (zc n1)))) (fun a3=>?_);refine .tq 0 [11] a3 ?_;refine .tq 1 [11] a3 ?_;refine .tq 2 [11] a3 ?_;refine .tq 3 [11] a3 ?_;refine .tq 4 [11] a3 ?_;refine .tq 5 [11] a3 ?_;refine .tq 6 [11] a3 ?_;refine fL.iQ (i:=7) gU rfl (fun K hK=>?_)
    ·go_simp
     go_at_call 107;refine(zqq (x:=x) p0 (Ty.up _ ac gG) aC).mono ?_;rintro e w2 ⟨Bi,ci,rfl,au,a5,d2,rfl⟩;have a3:=Vm (zd (zc k0) a5 d2) (Vm (zd (zc o0) a5 d2) (Vm (zd (zc n0) a5 d2) (zd (zc n1) a5 d2)));refine hK.out _ _ a3 ?_;clear hK
     try simp only[lay]
     refine fL.iQ (i:=8) gU rfl (fun K hK=>?_)
     ·go_simp
      have a3:=Vm (zq (zd (zc k0) a5 d2) (U #[Q x.Code,J Bi x.fq.length ci] 103)) (Vm (zq (zd (zc o0) a5 d2) (U #[Q x.Code,J Bi x.fq.length ci] 103)) (Vm (zq (zd (zc n0) a5 d2) (U #[Q x.Code,J Bi x.fq.length ci] 103)) (zq (zd (zc n1) a5 d2) (U #[Q x.Code,J Bi x.fq.length ci] 103))));refine hK.out _ _ a3 ?_;clear hK
      try simp only[lay]
      refine fL.iQ (i:=9) gU rfl (fun K hK=>?_)
      ·obtain⟨Sy,av,hly⟩:=gH.has au
       have aa:∀ b∈S,b∉Sy:=fun b hb' hm=>by have h1:=hly b hm;have h2:=hH.out.lt b hb';simp at h1;omega
       refine Bh (L:=j+1) rfl (.tmp 22) (.tmp 29) SH (hH.out.fH gF) (av.fH gF) aa rfl rfl rfl (by intro j u hu;simpa[go_sem] using hu) rfl fh fh ?_;intro A7 c7 W7 S7 a4 ae hS7;have a8:∀ k,k<wc.heap.size->k∉S:=fun k hk hm=>by have:=hS.out k hm;omega
       have e7:=Da hb.out gF a4 (a8 _ fh);have a3:=Vm (zE k0 gF a4 (a8 _ fh)) (Vm (zE o0 gF a4 (a8 _ fh)) (Vm (zE n0 gF a4 (a8 _ fh)) (zE n1 gF a4 (a8 _ fh))));have hGo:fy wr ((fH wr a5 d2).alloc (U #[Q x.Code,J Bi x.fq.length ci] 103)):=gF
       have ap:∀ b∈S7,wc.heap.size<=b:=fun b hb'=>by
        exact yg
       have aq:=Fb ho.out hGo a4 hS.out 0 (J A7 (j+1) c7);have ak:=ko (i:=0) (v:=J A7 (j+1) c7) e7 rfl;have a9:=ae.gu ((fG.refl [g3] W7).setCell (p:=⟨g3,0,I⟩) gm (J A7 (j+1) c7)) (fun b hb' hm=>by have:=ap b hb';simp at hm;omega);refine hK.out _ _ a3 ?_;clear hK
       try simp only[lay]
       refine .tq 10 [11] a3 ?_;obtain⟨a0,a1,a2,af,al⟩:=kL e7;refine fL.last gU rfl gU (fun K hK=>?_);go_simp;refine hK.out _ _ ?_;clear hK
       try simp only[lay]
       generalize W7.setCell _ _=Vb at aq ak a9 |-;clear a3 a4 ae hS7 e7 hb hH ho;have aB:s.fw.take j++[x]=s.fw.take (j+1):=by rw[Wr,ar];rfl
       rw[aB] at a9;go_wp2_with(fail);go_roundw;exact⟨j+1,A7,c7,S7,gm,fh,fk aq,fk ak,fk a9,fk ap⟩;exact iC
   ·obtain rfl:j=s.fw.length:=fh
    have az:¬ (s.fw.length:Int)<(s.fw.length:Int):=fh;have aj:=hH.out;rw[WG] at aj;go_wp2_with(fail);have h9:=vA (zj er a6) (J A s.fw.length c) (J B1 s.fD.length d1) (J B2 s.fm.length d2);obtain⟨r0,r1,r2,_,_⟩:=kL h9.1;have ag:=aj.gu h9.2 (fun b hb' hm=>by have:=hS.out b hb';simp at hm;omega);have ah:=(HJ.ha.gu ho.out (fun b hb' hm=>by simp at hm;exact HJ.su (hm ▸ hb'))).gu h9.2 (fun b hb' hm=>by have:=HJ.la b hb';simp at hm;omega);have ai:=(HJ.hb.gu ho.out (fun b hb' hm=>by simp at hm;exact HJ.uK (hm ▸ hb'))).gu h9.2 (fun b hb' hm=>by have:=HJ.lb b hb';simp at hm;omega);have aE:w.heap.size<=Y.heap.size:=a7.size;refine Vr (v:=.agg #[J A s.fw.length c,J B1 s.fD.length d1,J B2 s.fm.length d2]) (by simp[VF,results72,go_sem,r0,r1,r2]) rfl ⟨A,c,B1,d1,B2,d2,rfl,⟨_,EO ag.1 ah.1 ai.1,?_,?_⟩,h9.2.fH (a7.trans a6) (fun b hb'=>by simp at hb';omega)⟩
    ·refine Wb.2 ⟨Wb.2 ⟨ag.2,ah.2,fun a ha b hb' he=>?_⟩,ai.2,fun a ha b hb' he=>?_⟩
     ·have h1:=hS.out a ha
      have h2:=HJ.ha.lt b hb';omega
     ·rcases VA.1 ha with ha | ha
      ·have h1:=hS.out a ha
       have h2:=HJ.hb.lt b hb';omega
      ·exact HJ.sW a ha (he ▸ hb')
    ·intro b hb'
     rcases VA.1 hb' with hb' | hb'
     ·rcases VA.1 hb' with hb' | hb'
      ·have:=hS.out b hb'
       omega
      ·have:=HJ.la b hb'
       omega
     ·have:=HJ.lb b hb'
      omega
def DL:fF:=⟨0,0,0,[],[],0,0⟩
def qY (s:gQ):fF × Bool:=if ke s=H then (⟨s.fm.headD 0,1199,1200,VP 1200 0,[],0,0⟩,H) else (DL,M)
def R5 (p:fF × Bool)(w:V)(e:Z9)(w':V):Prop:=∃ A0 c0 A1 c1,e=.returned (.tuple #[.agg #[C Z p.1.Pc,C Z p.1.Sp,C Z p.1.Fp,J A0 p.1.fK.length c0,J A1 p.1.iE.length c1,C Z p.1.fY,C Z p.1.Value],X p.2])/\gH lQ w w' [C Z p.1.Pc,C Z p.1.Sp,C Z p.1.Fp,J A0 p.1.fK.length c0,J A1 p.1.iE.length c1,C Z p.1.fY,C Z p.1.Value] p.1/\fy w w'
theorem I7 (w:V):∀ n,gz zv w (VP n (C Z 0)) (VP n 0) []
 | 0=>by simp[gz]
 | n+1=>by
  rw[List.replicate_succ,List.replicate_succ];exact⟨[C Z 0],VP n (C Z 0),[],[],rfl,rfl,⟨rfl,gv,gv,rfl⟩,I7 w n⟩
theorem Pd (n:Nat):(WO #[C Z 0] n).toList=VP n (C Z 0):=by
 apply List.ext_getElem
 ·simp[WO]
 ·intro i h1 h2
  simp[WO,Nat.mod_one]
theorem Oi {Vb:V} (hg:Vb.heap[g]?=F (U (WO #[C Z 0] 1200) 3 (0,0)))(hl:w.heap.size<=g):gH (zv.sl 3) w Vb [J (F ⟨g,0,I⟩) (VP 1200 (0:Int)).length 1200] (VP 1200 0):=by
 have h:=qG (T:=zv) (xs:=VP 1200 (0:Int)) (S:=[]) hg (by rw[Pd];exact I7 Vb 1200) (by rw[Wn];decide);have e:(VP 1200 (0:Int)).length=1200:=Wn;rw[e] at h |-;exact⟨[g],h,gm,by simpa using hl⟩
theorem Po (w W:V)(h:w.heap.size<=W.heap.size):gH lQ w W [C Z 0,C Z 0,C Z 0,J I 0 0,J I 0 0,C Z 0,C Z 0] DL:=
 DY (x:=DL) ⟨gv,gv⟩ ⟨gv,gv⟩ ⟨gv,gv⟩ (yC W W).mw (yC W W).mw ⟨gv,gv⟩ ⟨gv,gv⟩ h h (.inl (Vz _))
theorem zzo (h0:(jS.sl 103).R w w.heap.size [J A0 s.fw.length c0] s.fw)(h1:(zv.sl 3).R w w.heap.size [J A1 s.fD.length c1] s.fD)
  (h2:(zv.sl 3).R w w.heap.size [J A2 s.fm.length c2] s.fm) (hs:my s<=1099511627776) :
  VK prog 76 #[.agg #[J A0 s.fw.length c0,J A1 s.fD.length c1,J A2 s.fm.length c2]] w (R5 (qY s) w):=by
 obtain⟨b,hb⟩:∃ b,ke s=b:=⟨_,rfl⟩
 have HB:=fk hb;cases b with
 | false=>
  have HQ:=fk (show qY s=(DL,M) from by unfold qY;rw[hb];rfl);clear hb;go_enter func76,ntmps76;go_wp2_with(go_at_call 41;refine(zcj (s:=s) (Ty.up _ h0 gG) (Ty.up _ h1 gG) (Ty.up _ h2 gG) hs).mono ?_;rw[HB.out];rintro e w1 ⟨rfl,a2,d1,rfl⟩);rw[HQ.out];exact Vr (v:=.tuple #[.agg #[C Z 0,C Z 0,C Z 0,J I 0 0,J I 0 0,C Z 0,C Z 0],X M]) (by simp[VF,results76,go_sem]) rfl ⟨I,0,I,0,rfl,Po _ _ (by simp <;> omega),gG⟩
 | true=>
  have a1:0<s.fm.length:=by
   have h:=hb;unfold ke at h;simp only[Vt,VD] at h;have:=zr.1 h.1.1.1.1.2;omega
  obtain⟨i0,hi,ag,ah,ai⟩:=Xt EP;have aa:=Gz (P:=prog) 26 3 i0 _ underlying26 hi ag Z Z 1200 1200 (Vz _) (by rw[ai];omega) fh;rw[ah,Xo] at aa;have ao:∀ w:V,(Instr.makeSlice 26 (C Z 1200) (C Z 1200)).run prog w=.ok (J (F ⟨w.heap.size,0,I⟩) 1200 1200) (w.alloc (U (WO #[C Z 0] 1200) 3)):=fun w=>aa w;clear ag ah ai hi aa;have aq:s.fm.length<=1099511627776:=by unfold my at hs;omega
  have ad:=h2;obtain⟨g,a0,x,rfl,ac,a8,aj,ak⟩:=ma h2 a1;simp only[Wk] at a8;have af:=Wf _ _ a8;simp only at af
  have HQ:=fk (show qY s=(⟨x,1199,1200,VP 1200 0,[],0,0⟩,H) from by
   unfold qY;rw[Vs hb]
   have:s.fm.headD 0=x:=by
    cases he:s.fm with
    | nil=>rw[he] at a1;exact absurd a1 gm
    | cons a r=>rw[he] at ac;simpa using ac
   rw[this])
  clear hb ac;go_enter func76,ntmps76;go_wp2_with(go_at_call 41;refine(zcj (s:=s) (Ty.up _ h0 gG) (Ty.up _ h1 gG) (Ty.up _ ad gG) hs).mono ?_;rw[HB.out];rintro e w1 ⟨rfl,a2,d1,rfl⟩);have a7:fy w (fH ((w.alloc (U #[J A0 s.fw.length c0,J A1 s.fD.length c1,J (F ⟨g,a0,I⟩) s.fm.length c2] 28)).alloc (U #[C Z 0,C Z 0,C Z 0,J I 0 0,J I 0 0,C Z 0,C Z 0] 41)) a2 d1):=gG;have eb:(fH ((w.alloc (U #[J A0 s.fw.length c0,J A1 s.fD.length c1,J (F ⟨g,a0,I⟩) s.fm.length c2] 28)).alloc (U #[C Z 0,C Z 0,C Z 0,J I 0 0,J I 0 0,C Z 0,C Z 0] 41)) a2 d1).heap[w.heap.size]?=F (U #[J A0 s.fw.length c0,J A1 s.fD.length c1,J (F ⟨g,a0,I⟩) s.fm.length c2] 28 (0,0)):=zj (Vj w _) gF;have er:(fH ((w.alloc (U #[J A0 s.fw.length c0,J A1 s.fD.length c1,J (F ⟨g,a0,I⟩) s.fm.length c2] 28)).alloc (U #[C Z 0,C Z 0,C Z 0,J I 0 0,J I 0 0,C Z 0,C Z 0] 41)) a2 d1).heap[w.heap.size+1]?=F (U #[C Z 0,C Z 0,C Z 0,J I 0 0,J I 0 0,C Z 0,C Z 0] 41 (0,0)):=zj (show ((w.alloc (U #[J A0 s.fw.length c0,J A1 s.fD.length c1,J (F ⟨g,a0,I⟩) s.fm.length c2] 28)).alloc (U #[C Z 0,C Z 0,C Z 0,J I 0 0,J I 0 0,C Z 0,C Z 0] 41)).heap[w.heap.size+1]?=_ from by have h:=Vj (w.alloc (U #[J A0 s.fw.length c0,J A1 s.fD.length c1,J (F ⟨g,a0,I⟩) s.fm.length c2] 28)) (U #[C Z 0,C Z 0,C Z 0,J I 0 0,J I 0 0,C Z 0,C Z 0] 41);rw[VH] at h;exact h) gF;obtain⟨gb,hg⟩:∃ gb,w.heap.size=gb:=⟨_,rfl⟩
  have a9:(fH ((w.alloc (U #[J A0 s.fw.length c0,J A1 s.fD.length c1,J (F ⟨g,a0,I⟩) s.fm.length c2] 28)).alloc (U #[C Z 0,C Z 0,C Z 0,J I 0 0,J I 0 0,C Z 0,C Z 0] 41)) a2 d1).cell? ⟨g,a0,I⟩=F (C Z x):=by obtain⟨os,d,e⟩:=a7;rw[e];exact zd a8 os d
  rw[hg] at eb er af |-;generalize (fH ((w.alloc _).alloc _) a2 d1)=Y at a7 eb er a9 |-;obtain⟨y0,y1,y2,_,yl⟩:=kL eb;obtain⟨z0,z1,z2,z3,z4,z5,z6,zf,zl⟩:=jb er;have au:gb≠gb+1:=fh;have an:g≠gb+1:=fh;have ar:g<Y.heap.size:=fh;clear a8 h0 h1 h2 ad;go_region_held3 (fun w'=>Vg w' ⟨gb,2,I⟩=F (J (F ⟨g,a0,I⟩) s.fm.length c2)/\Vg w' ⟨g,a0,I⟩=F (C Z x)) ((repeat' apply Vm) <;> ((repeat (first | with_reducible assumption | with_reducible refine zd ?_ _ _ | with_reducible refine zq ?_ _ | with_reducible refine zc ?_ | with_reducible refine BL ?_ ?_));done)) (first | (fail));go_wp2_with(fail);rw[HQ.out];have h2:=qT er (C Z x) (C Z 1199) (C Z 1200) (J (F ⟨Y.heap.size,0,I⟩) 1200 1200) (J I 0 0) (C Z 0) (C Z 0);have ae:(((((((Y.setCell ⟨gb+1,0,I⟩ (C Z x)).setCell ⟨gb+1,1,I⟩ (C Z 1199)).setCell ⟨gb+1,2,I⟩ (C Z 1200)).setCell ⟨gb+1,3,I⟩ (J (F ⟨Y.heap.size,0,I⟩) 1200 1200)).setCell ⟨gb+1,4,I⟩ (J I 0 0)).setCell ⟨gb+1,5,I⟩ (C Z 0)).setCell ⟨gb+1,6,I⟩ (C Z 0)).heap.size=Y.heap.size:=gm;generalize (((((((Y.setCell _ _).setCell _ _).setCell _ _).setCell _ _).setCell _ _).setCell _ _).setCell _ _)=Vb at h2 ae |-;obtain⟨r0,r1,r2,r3,r4,r5,r6,_,_⟩:=jb h2.1;have a3:=Vj Vb (U (WO #[C Z 0] 1200) 3);rw[ae] at a3;have a4:((Vb.alloc (U (WO #[C Z 0] 1200) 3)).drew).heap[Y.heap.size]?=F (U (WO #[C Z 0] 1200) 3 (0,0)):=a3;have hf:=Oi (w:=Y) a4 (Vz _);have ab:fQ x:=⟨aj,ak⟩
  have n0:fQ 0:=⟨gv,gv⟩
  have a5:fQ 1199:=⟨gv,gv⟩
  have a6:fQ 1200:=⟨gv,gv⟩
  have al:(VP 1200 (0:Int)).length=1200:=Wn;have am:=h2.2.fH a7 (fun b hb=>by simp at hb;omega);have ap:=a7.size
  have hF:gH lQ w ((Vb.alloc (U (WO #[C Z 0] 1200) 3)).drew) [C Z x,C Z 1199,C Z 1200,J (F ⟨Y.heap.size,0,I⟩) (VP 1200 (0:Int)).length 1200,J I 0 0,C Z 0,C Z 0] ⟨x,1199,1200,VP 1200 0,[],0,0⟩:=
   DY (x:=⟨x,1199,1200,VP 1200 0,[],0,0⟩) ab a5 a6 hf.mw (yC ((Vb.alloc (U (WO #[C Z 0] 1200) 3)).drew) _).mw n0 n0 ap (by simp <;> omega) (.inl (Vz _))
  rw[al] at hF;have q0:=zc (zq r0 (U (WO #[C Z 0] 1200) 3));have q1:=zc (zq r1 (U (WO #[C Z 0] 1200) 3));have q2:=zc (zq r2 (U (WO #[C Z 0] 1200) 3));have q3:=zc (zq r3 (U (WO #[C Z 0] 1200) 3));have q4:=zc (zq r4 (U (WO #[C Z 0] 1200) 3));have q5:=zc (zq r5 (U (WO #[C Z 0] 1200) 3));have q6:=zc (zq r6 (U (WO #[C Z 0] 1200) 3));refine Vr (v:=.tuple #[.agg #[C Z x,C Z 1199,C Z 1200,J (F ⟨Y.heap.size,0,I⟩) 1200 1200,J I 0 0,C Z 0,C Z 0],X H]) (by simp[VF,results76,go_sem,q0,q1,q2,q3,q4,q5,q6]) rfl ⟨F ⟨Y.heap.size,0,I⟩,1200,I,0,?_,?_,am.trans gF⟩
  ·simp only[Wn,VZ]
  ·simp only[Wn,VZ];exact hF
def AN:gB:=⟨⟨[],[],[]⟩,[],0,0,0⟩
def qq (s:gQ)(n:Nat)(sl:Int):gB:=⟨s,VP n (qY s).1,0,sl,sl⟩
def zB (s:gQ)(th sl:Int):gB × Bool:=if gE th 1 3=H/\km (qq s th.toNat sl)=H then (qq s th.toNat sl,H) else (AN,M)
def R6 (p:gB × Bool)(w:V)(e:Z9)(w':V):Prop:=∃ A0 c0 A1 c1 A2 c2 A3 c3,e=.returned (.tuple #[.agg #[J A0 p.1.fo.fw.length c0,J A1 p.1.fo.fD.length c1,J A2 p.1.fo.fm.length c2,J A3 p.1.fu.length c3,C Z p.1.gM,C Z p.1.gO,C Z p.1.fW],X p.2])/\gH nz w w' [J A0 p.1.fo.fw.length c0,J A1 p.1.fo.fD.length c1,J A2 p.1.fo.fm.length c2,J A3 p.1.fu.length c3,C Z p.1.gM,C Z p.1.gO,C Z p.1.fW] p.1/\fy w w'
theorem Cu {B:Nat} {x:gQ} (h:nh.R w B [J A0 x.fw.length c0,J A1 x.fD.length c1,J A2 x.fm.length c2] x):(jS.sl 103).R w B [J A0 x.fw.length c0] x.fw/\(zv.sl 3).R w B [J A1 x.fD.length c1] x.fD/\(zv.sl 3).R w B [J A2 x.fm.length c2] x.fm:=by
 obtain⟨a0,a3,a1,a4,a2,a5,hc,f0,f1,f2⟩:=Kv h;simp only[XB,WP,Yv,XR] at hc;obtain⟨⟨rfl,rfl⟩,⟨rfl,rfl⟩,⟨rfl,rfl⟩⟩:=hc;exact⟨f0,f1,f2⟩
theorem Lp (s:gQ):mM (qY s).1<=1200:=by
 unfold qY;split
 ·show (VP 1200 (0:Int)).length+0<=1200
  rw[Wn];decide
 ·exact Vu _
theorem KA (s:gQ)(n:Nat)(sl:Int):zQ (qq s n sl)<=my s+1201*n:=by
 have h:=Lp s;unfold zQ qq nQ;simp only[Wn,List.map_replicate,List.sum_replicate_nat];have:=Nat.mul_le_mul_left n h;omega
theorem Iv (s:gQ)(n:Nat)(sl:Int)(h:n=0∨3<n):km (qq s n sl)=M:=by
 unfold km
 have:gE ((qq s n sl).fu.length) 1 3=M:=by
  unfold qq gE;simp only[Wn];rcases h with h | h
  ·subst h;rfl
  ·have:¬ ((n:Int)<=3):=fh
   simp[this]
   try omega
 rw[this];simp
def tC (th:Int):Nat:=if th<=0 then 0 else if th<=3 then th.toNat else 4
theorem QR {k:Nat} (h:k<tC th):(k:Int)<th/\(k:Int)<=3:=by
 unfold tC at h;split at h
 ·omega
 ·split at h <;> omega
theorem QQ:¬ ((tC th:Int)<th/\(tC th:Int)<=3):=by
 unfold tC;split
 ·omega
 ·split <;> omega
theorem MN (s:gQ)(th sl:Int):zB s th sl=if km (qq s (tC th) sl)=H then (qq s (tC th) sl,H) else (AN,M):=by
 unfold zB tC;by_cases h0:th<=0
 ·rw[Vs h0,Vo (by rw[zr];omega),Vo (by rw[Iv s 0 sl (.inl rfl)];simp)]
 ·rw[Vo h0]
  by_cases h3:th<=3
  ·rw[Vs h3]
   have:gE th 1 3=H:=zr.2 ⟨fh,h3⟩;simp only[this,Yv]
  ·rw[Vo h3,Vo (by rw[zr];omega),Vo (by rw[Iv s 4 sl (.inr fh)];simp)]
theorem MK (w W:V)(h:w.heap.size<=W.heap.size):gH nz w W [J I 0 0,J I 0 0,J I 0 0,J I 0 0,C Z 0,C Z 0,C Z 0] AN:=by
 have n0:fQ 0:=⟨gv,gv⟩
 exact⟨_,Cl (x:=AN) (EO (x:=⟨[],[],[]⟩) (Has.nil jS 103 W).1 (Has.nil zv 3 W).1 (Has.nil zv 3 W).1) (Has.nil lQ 41 W).1 n0 n0 n0,gm,gm⟩
theorem Cg {g:Prop} (f:g:=by
  clear hge
  cases bp with
  | false=>
   have HQ:=fk hnp
   clear hnp
   go_wp2_with(go_at_call 47;refine(zfT (x:=⟨s,ts,0,sl,sl⟩) (Ty.up _ f0 gG) (Ty.up _ f1 gG) (Ty.up _ f2 gG) (Ty.up _ f3 gG) hsz).mono ?_;rw[HB.out];rintro e w3 ⟨rfl,os3,e3,rfl⟩;have e83:=zj hb.out (fy.of wr os3 e3);obtain⟨a0,a1,a2,a3,a4,a5,a6,af,al⟩:=jb e83;have err3:=zj err (fy.of wr os3 e3);obtain⟨y0,y1,y2,y3,y4,y5,y6,yf,yl⟩:=jb err3)
   have h9:=qT err (J I 0 0) (J I 0 0) (J I 0 0) (J I 0 0) (C Z 0) (C Z 0) (C Z 0)
   generalize (((((((wr.setCell _ _).setCell _ _).setCell _ _).setCell _ _).setCell _ _).setCell _ _).setCell _ _)=Vb at h9 |-
   obtain⟨r0,r1,r2,r3,r4,r5,r6,_,_⟩:=jb (zj h9.1 (fy.of Vb os3 e3))
   have hG9:=(h9.2.fH hGr (fun b hb'=>by simp at hb';omega)).more os3 e3
   rw[HQ.out]
   refine Vr (v:=.tuple #[.agg #[J I 0 0,J I 0 0,J I 0 0,J I 0 0,C Z 0,C Z 0,C Z 0],X M]) (by simp[VF,results35,go_sem,r0,r1,r2,r3,r4,r5,r6]) rfl ⟨I,0,I,0,I,0,I,0,rfl,MK _ _ hG9.size,hG9⟩
  | true=>
   have HQ:=fk hnp
   clear hnp
   go_wp2_with(go_at_call 47;refine(zfT (x:=⟨s,ts,0,sl,sl⟩) (Ty.up _ f0 gG) (Ty.up _ f1 gG) (Ty.up _ f2 gG) (Ty.up _ f3 gG) hsz).mono ?_;rw[HB.out];rintro e w3 ⟨rfl,os3,e3,rfl⟩;have e83:=zj hb.out (fy.of wr os3 e3);obtain⟨a0,a1,a2,a3,a4,a5,a6,af,al⟩:=jb e83;have err3:=zj err (fy.of wr os3 e3);obtain⟨y0,y1,y2,y3,y4,y5,y6,yf,yl⟩:=jb err3)
   have h9:=qT err (J B0 s.fw.length d0) (J B1 s.fD.length d1) (J B2 s.fm.length d2) (J A ts.length c) (C Z 0) (C Z sl) (C Z sl)
   generalize (((((((wr.setCell _ _).setCell _ _).setCell _ _).setCell _ _).setCell _ _).setCell _ _).setCell _ _)=Vb at h9 |-
   obtain⟨r0,r1,r2,r3,r4,r5,r6,_,_⟩:=jb (zj h9.1 (fy.of Vb os3 e3))
   have hG9:=(h9.2.fH hGr (fun b hb'=>by simp at hb';omega)).more os3 e3
   rw[HQ.out]
   have hHs9:=(hHsw.gu h9.2 (fun b hb' hm=>by have:=hls2 b hb';simp at hm;omega)).fH (fy.of Vb os3 e3)
   have hH9:=(hHr.gu h9.2 (fun b hb' hm=>by have:=hS.out b hb';simp at hm;omega)).fH (fy.of Vb os3 e3)
   refine Vr (v:=.tuple #[.agg #[J B0 s.fw.length d0,J B1 s.fD.length d1,J B2 s.fm.length d2,J A ts.length c,C Z 0,C Z sl,C Z sl],X H]) (by simp[VF,results35,go_sem,r0,r1,r2,r3,r4,r5,r6]) rfl ⟨B0,d0,B1,d1,B2,d2,A,c,rfl,⟨_,Cl (x:=⟨s,ts,0,sl,sl⟩) hHs9.1 hH9.1 n0 hsl hsl,?_,?_⟩,hG9⟩
   ·refine Wb.2 ⟨hHs9.2,hH9.2,fun a ha b hb' he=>?_⟩
    have h1:=hS.out b hb'
    have h2:=hlt8 a ha
    omega
   ·intro b hb'
    rcases VA.1 hb' with hb' | hb'
    ·have:=hls2 b hb'
     omega
    ·have:=hS.out b hb'
     omega):g:=f
theorem zvq {sl:Int} (h0:(jS.sl 103).R w w.heap.size [J A0 s.fw.length c0] s.fw)(h1:(zv.sl 3).R w w.heap.size [J A1 s.fD.length c1] s.fD)
  (h2:(zv.sl 3).R w w.heap.size [J A2 s.fm.length c2] s.fm) (hs:my s<=1099511600000) (ht:fQ th) (hsl:fQ sl) :
  VK prog 35 #[.agg #[J A0 s.fw.length c0,J A1 s.fD.length c1,J A2 s.fm.length c2],C Z th,C Z sl] w (R6 (zB s th sl) w):=by
 have ao:my s<=1099511627776:=fh;obtain⟨m,hm⟩:∃ m,qY s=m:=⟨_,rfl⟩
 have HM:=fk hm;have aF:mM m.1<=1200:=by rw[<-hm];exact Lp s
 obtain⟨K,hK⟩:∃ K,tC th=K:=⟨_,rfl⟩
 have aa:=fk hK;have aD:K<=4:=by rw[<-hK];unfold tC;split <;> (try split) <;> omega
 clear hm hK;go_enter func35,ntmps35;go_wp2_with(go_at_call 72;refine(zhM (s:=s) (Ty.up _ h0 gG) (Ty.up _ h1 gG) (Ty.up _ h2 gG) ao).mono ?_;rintro e w1 ⟨B0,d0,B1,d1,B2,d2,rfl,ag,a7,e1,rfl⟩);have ah:fy w ((fH ((w.alloc (U #[J A0 s.fw.length c0,J A1 s.fD.length c1,J A2 s.fm.length c2] 28)).alloc (U #[J I 0 0,J I 0 0,J I 0 0,J I 0 0,C Z 0,C Z 0,C Z 0] 34)) a7 e1).alloc (U #[J B0 s.fw.length d0,J B1 s.fD.length d1,J B2 s.fm.length d2,J I 0 0,C Z 0,C Z sl,C Z sl] 34)):=gG;have eb:((fH ((w.alloc (U #[J A0 s.fw.length c0,J A1 s.fD.length c1,J A2 s.fm.length c2] 28)).alloc (U #[J I 0 0,J I 0 0,J I 0 0,J I 0 0,C Z 0,C Z 0,C Z 0] 34)) a7 e1).alloc (U #[J B0 s.fw.length d0,J B1 s.fD.length d1,J B2 s.fm.length d2,J I 0 0,C Z 0,C Z sl,C Z sl] 34)).heap[w.heap.size]?=F (U #[J A0 s.fw.length c0,J A1 s.fD.length c1,J A2 s.fm.length c2] 28 (0,0)):=zj (Vj w _) gF;have er:((fH ((w.alloc (U #[J A0 s.fw.length c0,J A1 s.fD.length c1,J A2 s.fm.length c2] 28)).alloc (U #[J I 0 0,J I 0 0,J I 0 0,J I 0 0,C Z 0,C Z 0,C Z 0] 34)) a7 e1).alloc (U #[J B0 s.fw.length d0,J B1 s.fD.length d1,J B2 s.fm.length d2,J I 0 0,C Z 0,C Z sl,C Z sl] 34)).heap[w.heap.size+1]?=F (U #[J I 0 0,J I 0 0,J I 0 0,J I 0 0,C Z 0,C Z 0,C Z 0] 34 (0,0)):=zj (show ((w.alloc (U #[J A0 s.fw.length c0,J A1 s.fD.length c1,J A2 s.fm.length c2] 28)).alloc (U #[J I 0 0,J I 0 0,J I 0 0,J I 0 0,C Z 0,C Z 0,C Z 0] 34)).heap[w.heap.size+1]?=_ from by have h:=Vj (w.alloc (U #[J A0 s.fw.length c0,J A1 s.fD.length c1,J A2 s.fm.length c2] 28)) (U #[J I 0 0,J I 0 0,J I 0 0,J I 0 0,C Z 0,C Z 0,C Z 0] 34);rw[VH] at h;exact h) gF
 have e8:((fH ((w.alloc (U #[J A0 s.fw.length c0,J A1 s.fD.length c1,J A2 s.fm.length c2] 28)).alloc (U #[J I 0 0,J I 0 0,J I 0 0,J I 0 0,C Z 0,C Z 0,C Z 0] 34)) a7 e1).alloc (U #[J B0 s.fw.length d0,J B1 s.fD.length d1,J B2 s.fm.length d2,J I 0 0,C Z 0,C Z sl,C Z sl] 34)).heap[w.heap.size+1+1+a7.size]?=F (U #[J B0 s.fw.length d0,J B1 s.fD.length d1,J B2 s.fm.length d2,J I 0 0,C Z 0,C Z sl,C Z sl] 34 (0,0)):=by
  have h:=Vj (fH ((w.alloc (U #[J A0 s.fw.length c0,J A1 s.fD.length c1,J A2 s.fm.length c2] 28)).alloc (U #[J I 0 0,J I 0 0,J I 0 0,J I 0 0,C Z 0,C Z 0,C Z 0] 34)) a7 e1) (U #[J B0 s.fw.length d0,J B1 s.fD.length d1,J B2 s.fm.length d2,J I 0 0,C Z 0,C Z sl,C Z sl] 34);rw[mJ,VH,VH] at h;exact h
 obtain⟨SS,a8,ak⟩:=gH.has ag;have ai:=a8.fH (W':=((fH ((w.alloc (U #[J A0 s.fw.length c0,J A1 s.fD.length c1,J A2 s.fm.length c2] 28)).alloc (U #[J I 0 0,J I 0 0,J I 0 0,J I 0 0,C Z 0,C Z 0,C Z 0] 34)) a7 e1).alloc (U #[J B0 s.fw.length d0,J B1 s.fD.length d1,J B2 s.fm.length d2,J I 0 0,C Z 0,C Z sl,C Z sl] 34))) gF;have hlt8:∀ b∈SS,b<w.heap.size+1+1+a7.size:=fun b hb=>by have h:=a8.lt b hb;rw[mJ,VH,VH] at h;exact h
 have hls2:∀ b∈SS,w.heap.size+1<b:=fun b hb=>by have h:=ak b hb;rw[VH,VH] at h;omega
 clear ak a8 ag;obtain⟨g,hg⟩:∃ g,w.heap.size=g:=⟨_,rfl⟩
 rw[hg] at eb er e8 hlt8 hls2 |-;obtain⟨g8,ax⟩:∃ g8,g+1+1+a7.size=g8:=⟨_,rfl⟩
 rw[ax] at e8 hlt8 |-;generalize ((fH ((w.alloc _).alloc _) a7 e1).alloc _)=wc at ah eb er e8 ai |-;have ac:g≠g8:=fh;have ad:g+1≠g8:=fh;have aE:=(blt e8)
 go_loopw [9,10,11] (fun a b cc wr=>∃(k:Nat) (A:N VQ) (c:Nat) (S:D Nat),a=C Z k/\k<=K/\Hid (fG [g8] wc wr)/\Hid (wr.heap[g8]?=F (U #[J B0 s.fw.length d0,J B1 s.fD.length d1,J B2 s.fm.length d2,J A k c,C Z 0,C Z sl,C Z sl] 34 (0,0)))/\Hid (Has (lQ.sl 41) wr [J A k c] (VP k m.1) S)/\Hid (∀ b∈S,wc.heap.size<=b)) (fun a _ _ _=>K-(Wj a).toNat)
 case atStart=>exact⟨0,I,0,[],rfl,Vu _,fk (fG.refl _ _),fk e8,fk (Has.nil _ _ _),fk gm⟩
 case round=>
  obtain⟨k,A,c,S,rfl,ay,ho,hb,hH,hS⟩:=hrel;have hGr:fy w wr:=ho.out.fH ah (fun b hb=>by simp at hb;omega);have aI:wc.heap.size<=wr.heap.size:=ho.out.size;have ap:=(ho.out.block g (blt eb) (by simpa using ac)).trans eb;have err:=(ho.out.block (g+1) (blt er) (by simpa using ad)).trans er;obtain⟨q0,q1,q2,_,ql⟩:=kL ap;obtain⟨p0,p1,p2,p3,p4,p5,p6,pf,pl⟩:=jb hb.out;obtain⟨z0,z1,z2,z3,z4,z5,z6,zf,zl⟩:=jb err;by_cases hlt:k<K
  ·have hr:=QR (show k<tC th by rw[aa.out];exact hlt)
   have r0:decide ((k:Int)<th)=H:=Vv hr.1;have r1:decide ((k:Int)<=3)=H:=Vv hr.2;have aA:=Ty.up _ h0 hGr;have aB:=Ty.up _ h1 hGr;have aC:=Ty.up _ h2 hGr;have aG:=hr.1;have aH:=hr.2
   go_wp2_with(first
    | (go_at_call 76;refine(zzo (s:=s) (Ty.up _ aA gG) (Ty.up _ aB gG) (Ty.up _ aC gG) ao).mono ?_;rw[HM.out];rintro e w2 ⟨Am,cm,Ao,co,rfl,aq,aJ,e2,rfl⟩)
    | (at_builtin;obtain⟨Sy,au,am⟩:=gH.has aq;refine zJ (L:=k+1) rfl (.tmp 32) (.tmp 34) JT (hH.out.fH gF) (au.fH gF) (fun b hb' hm=>by have h1:=am b hm;have h2:=hH.out.lt b hb';omega) rfl rfl rfl (by intro j u hu;simpa[go_sem] using hu) rfl fh fh ?_;intro A7 c7 W7 S7 an ar av;have e7:=Da hb.out gF an (fun hm=>by have:=hS.out g8 hm;omega);obtain⟨a0,a1,a2,a3,a4,a5,a6,af,al⟩:=jb e7;have az:=Fb ho.out gF an hS.out 3 (J A7 (k+1) c7);have aw:=ko (i:=3) (v:=J A7 (k+1) c7) e7 rfl;have aj:∀ b∈S7,wc.heap.size<=b:=fun b hb'=>(by rcases av b hb' with h | h | h;(exact hS.out b h);(have:=am b h;omega);(simp at h;omega));have hH9:=ar.gu ((fG.refl [g8] W7).setCell (p:=⟨g8,3,I⟩) gm (J A7 (k+1) c7)) (fun b hb' hm=>by have:=aj b hb';simp at hm;omega);rw[<-List.replicate_succ'] at hH9))
   go_roundw;exact⟨k+1,A7,c7,S7,gm,fh,fk az,fk aw,fk hH9,fk aj⟩;exact iC
  ·obtain rfl:k=K:=fh
   obtain⟨ts,a9⟩:∃ ts,VP k m.1=ts:=⟨_,rfl⟩
   have ae:k=ts.length:=by rw[<-a9,Wn]
   have hP:qq s k sl=⟨s,ts,0,sl,sl⟩:=by unfold qq;rw[HM.out,a9]
   have hsz:zQ ⟨s,ts,0,sl,sl⟩<=1099511627776:=by rw[<-hP];have:=KA s k sl;omega
   have hHr:=hH.out;rw[a9] at hHr;have hge:=QQ (th:=th);rw[aa.out] at hge;have hnp:=MN s th sl;rw[aa.out,hP] at hnp;have n0:fQ 0:=⟨gv,gv⟩
   have hHsw:=ai.gu ho.out (fun b hb' hm=>by have:=hlt8 b hb';simp at hm;omega);obtain⟨f0,f1,f2⟩:=Cu hHsw.read;have f3:=hHr.read;clear a9 hP hlt ay;subst ae;obtain⟨bp,ab⟩:∃ b,km ⟨s,ts,0,sl,sl⟩=b:=⟨_,rfl⟩
   have HB:=fk ab;rw[ab] at hnp;clear ab;by_cases q:(ts.length:Int)<th
   ·have r0:decide ((ts.length:Int)<th)=H:=Vv q
    have q3:¬ ((ts.length:Int)<=3):=fun h=>hge ⟨q,h⟩;have r1:decide ((ts.length:Int)<=3)=M:=Vp q3;exact Cg
   ·have r0:decide ((ts.length:Int)<th)=M:=Vp q
    exact Cg
theorem Pf (s:gQ)(th sl:Int):zQ (zB s th sl).1<=my s+3603:=by
 unfold zB;split
 ·rename_i h
  have h1:=zr.1 h.1;have h2:=KA s th.toNat sl;show zQ (qq s th.toNat sl)<=_;omega
 ·show zQ AN<=_
  have h0:zQ AN=0:=rfl;omega
theorem Js:∀(imgs:D ii)(bases:D Int)(e:Int)(k:Nat),mG imgs bases e k=(-1,-1)∨∃(j:Nat)(x:ii)(b:Int),imgs[j]?=F x/\bases[j]?=F b/\mG imgs bases e k=(((k+j:Nat):Int),e-b)/\b<=e/\e<b+x.Code.size:=by
 intro imgs;induction imgs with
 | nil=>intro bases e k;exact .inl (Jr bases e k)
 | cons x r ih=>
  intro bases e k;cases bases with
  | nil=>exact .inl rfl
  | cons b bs=>
   have h:=Kd (imgs:=x::r) (bases:=b::bs) (k:=0) (x:=x) (b:=b) rfl rfl e;by_cases hq:b<=e/\e<b+x.Code.size
   ·refine .inr ⟨0,x,b,rfl,rfl,?_,hq.1,hq.2⟩
    unfold mG;rw[Vs hq];rfl
   ·have hs:mG (x::r) (b::bs) e k=mG r bs e (k+1):=by
     rw[mG,Vo hq]
    rcases ih bs e (k+1) with h1 | ⟨j,y,c,h1,h2,h3,h4,h5⟩
    ·exact .inl (hs.trans h1)
    ·exact .inr ⟨j+1,y,c,h1,h2,by rw[hs,h3];simp;omega,h4,h5⟩
def kE (s:gQ)(a:Int):vC:=
 if (loc s a).1<0 then ⟨0,0,0,M⟩ else
  match s.fw[(loc s a).1.toNat]? with
  | some i=>ku i.Code (loc s a).2
  | none=>⟨0,0,0,M⟩
theorem zx8 (h0:(jS.sl 103).R w w.heap.size [J A0 s.fw.length c0] s.fw)(h1:(zv.sl 3).R w w.heap.size [J A1 s.fD.length c1] s.fD)
  (hl:s.fw.length=s.fD.length) (hst:∀ x∈s.fw,x.Code.size<=1099511627776) (hbs:∀ b∈s.fD,gE b 1 1000000=H) (ha:fQ a) :
  VK prog 84 #[.agg #[J A0 s.fw.length c0,J A1 s.fD.length c1,J A2 s.fm.length c2],C Z a] w (DK (kE s a) w):=by
 obtain⟨_,_,a7,aj,ae⟩:=mQ h0;injection a7 with e1 e2 e3
 subst e1 e3;clear e2;have a3:=fk hl;have a4:=fk hst;have a2:=fk hbs;rcases Js s.fw s.fD a 0 with h | ⟨j,x,b,hj,hb,h,ab,ac⟩
 ·have HL:=fk h
  have HQ:=fk (show kE s a=⟨0,0,0,M⟩ from by unfold kE loc;rw[h];rfl);clear h hl hst hbs;go_enter func84,ntmps84;go_wp2_with(go_at_call 82;refine(zmT (imgs:=s.fw) (bases:=s.fD) (es:=s.fm) (e:=a) (Ty.up _ h0 gG) (Ty.up _ h1 gG) a3.out a4.out a2.out ha).mono ?_;rw[HL.out];rintro e w1 ⟨rfl,aa,d1,rfl⟩);rw[HQ.out];exact Vr (v:=.tuple #[.agg #[C Z 0,C Z 0],C Z 0,X M]) (by simp[VF,results84,go_sem]) rfl ⟨rfl,gG⟩
 ·rw[VJ] at h
  have HL:=fk h;have a6:j<s.fw.length:=(Vh.1 hj).1;obtain⟨g,ak,y,Ax,cx,rfl,af,a0,m0,m1,p0,ai⟩:=vh h0 a6;have a8:y=x:=by rw[hj] at a0;injection a0 with a0;exact a0.symm
  subst a8;have a9:y.Code.size<=1099511627776:=hst y (Vx hj);have ad:=zr.1 (hbs b (Vx hb));have a5:fQ (a-b):=⟨by have:=ha.1;omega,by have:=ha.2;omega⟩
  have a1:kE s a=ku y.Code (a-b):=by
   unfold kE loc;rw[h];simp only;rw[Vo fh,Vy,hj]
  have ag:¬ ((j:Int)<0):=fh;have ah:(j:Int)<(s.fw.length:Int):=fh;obtain⟨r,hr⟩:∃ r,ku y.Code (a-b)=r:=⟨_,rfl⟩
  rw[hr] at a1;have HQ:=fk a1;have HR:=fk hr;clear h hj hb a0 hr a1 hl hst hbs;go_enter func84,ntmps84
  go_wp2_with(first
   | (go_at_call 82;refine(zmT (imgs:=s.fw) (bases:=s.fD) (es:=s.fm) (e:=a) (Ty.up _ h0 gG) (Ty.up _ h1 gG) a3.out a4.out a2.out ha).mono ?_;rw[HL.out];rintro e w1 ⟨rfl,aa,d1,rfl⟩)
   | (go_at_call 135;refine(zi1 y.Code (a-b) _ a9 a5).mono ?_;rw[HR.out];rintro e w2 ⟨rfl,al,d2,rfl⟩))
  rw[HQ.out];exact Vr (v:=.tuple #[.agg #[C Z r.code,C Z r.arg],C Z r.n,X r.ok]) (by simp[VF,results84,go_sem]) rfl ⟨rfl,gG⟩
structure p8 (Ve:Nat)(m:fF):Prop where
 len:m.fK.length=1200
 out:m.iE.length<=Ve
 pc:fQ m.Pc
 sp:fQ m.Sp
 fp:fQ m.Fp
 st:fQ m.fY
 va:fQ m.Value
def iT (bad:Bool)(m:fF):N fF:=if bad=H then I else F m
theorem P8 {b:Bool} {K:fF->N fF} (h:iT b m=o.bind fun m=>jm m v):(o.bind fun m=>(jm m v).bind K)=(iT b m).bind K:=by
 rw[h,Option.bind_assoc]
theorem td {γ:Type} {b:Bool} {K:fF × Int->N γ} (h:(iT b m).map (fun m=>(m,v))=o.bind iR):(o.bind fun m=>(iR m).bind K)=(iT b m).bind fun m=>K (m,v):=by
 rw[<-Option.bind_assoc,<-h];cases iT b m <;> rfl
theorem Gb (hb:gE a 0 1199=H)(h:m.fK[a.toNat]?=F v):mW m a=F v:=by
 unfold mW;rw[Vs hb,h]
theorem vQ (hb:gE a 0 1199=M):mW m a=I:=by
 unfold mW;rw[hb];rfl
theorem vt {o0 o1 o2 o3 o4 o5 o6 o7:Value} {e:Wl} (h:W.heap[g]?=F (U #[o0,o1,o2,o3,o4,o5,o6,o7] e (0,0))) :
  Vg W ⟨g,0,I⟩=F o0/\Vg W ⟨g,1,I⟩=F o1/\Vg W ⟨g,2,I⟩=F o2/\Vg W ⟨g,3,I⟩=F o3/\Vg W ⟨g,4,I⟩=F o4/\Vg W ⟨g,5,I⟩=F o5/\Vg W ⟨g,6,I⟩=F o6/\Vg W ⟨g,7,I⟩=F o7/\(∀ j,VE W ⟨g,j,I⟩=M)/\g<W.heap.size:=by
 refine⟨?_,?_,?_,?_,?_,?_,?_,?_,fun j=>by simp[VE,h],(blt h)⟩
 all_goals
  rw[WC W g _ _ _ (0,0) h]
  rfl
structure qZ (B:D (Nat × Obj))(Y W:V)(Ve gc:Nat)(bad:Bool)(m:fF)(A:N VQ)(c:Nat)(S:D Nat)(Ao:N VQ)(co:Nat)(So:D Nat):Prop where
 ly:W.heap[gc]?=F (U #[C Z m.Pc,C Z m.Sp,C Z m.Fp,J A m.fK.length c,J Ao m.iE.length co,C Z m.fY,C Z m.Value,X bad] 140 (0,0))
 stack:Has (zv.sl 3) W [J A m.fK.length c] m.fK S
 out:Has (zv.sl 3) W [J Ao m.iE.length co] m.iE So
 lG:∀ b∈S,b∉So
 cs:gc∉S/\gc∉So
 ok:p8 Ve m
 fH:fy Y W
 lc:Y.heap.size<=gc
 ls:∀ b∈S,Y.heap.size<=b
 lo:∀ b∈So,Y.heap.size<=b
 kb:∀ p∈B,W.heap[p.1]?=F p.2/\p.1≠gc/\p.1∉S/\p.1∉So
def je (B:D (Nat × Obj))(Y W:V)(Ve gc:Nat)(bad:Bool)(m:fF):Prop:=
 ∃ A c S Ao co So,qZ B Y W Ve gc bad m A c S Ao co So
theorem je.cells (h:je B Y W Ve gc bad m):∃ A c Ao co,
  Vg W ⟨gc,0,I⟩=F (C Z m.Pc)/\Vg W ⟨gc,1,I⟩=F (C Z m.Sp)/\Vg W ⟨gc,2,I⟩=F (C Z m.Fp)/\Vg W ⟨gc,3,I⟩=F (J A m.fK.length c)/\Vg W ⟨gc,4,I⟩=F (J Ao m.iE.length co)/\Vg W ⟨gc,5,I⟩=F (C Z m.fY)/\Vg W ⟨gc,6,I⟩=F (C Z m.Value)/\Vg W ⟨gc,7,I⟩=F (X bad)/\(∀ j,VE W ⟨gc,j,I⟩=M)/\gc<W.heap.size/\p8 Ve m:=by
 obtain⟨A,c,S,Ao,co,So,h⟩:=h;obtain⟨z0,z1,z2,z3,z4,z5,z6,z7,zf,zl⟩:=vt h.ly;exact⟨A,c,Ao,co,z0,z1,z2,z3,z4,z5,z6,z7,zf,zl,h.ok⟩
theorem je.num {bad':Bool} {m':fF} (h:je B Y W Ve gc bad m){i:Nat}{v:Value}(hs:m'.fK=m.fK)(ho:m'.iE=m.iE)(hk:p8 Ve m')
  (hrow:∀ x y,(#[C Z m.Pc,C Z m.Sp,C Z m.Fp,x,y,C Z m.fY,C Z m.Value,X bad]:Array Value).setIfInBounds i v=#[C Z m'.Pc,C Z m'.Sp,C Z m'.Fp,x,y,C Z m'.fY,C Z m'.Value,X bad']):je B Y (W.setCell ⟨gc,i,I⟩ v) Ve gc bad' m':=by
 obtain⟨A,c,S,Ao,co,So,h⟩:=h;have a0:fG [gc] W (W.setCell ⟨gc,i,I⟩ v):=(fG.refl _ _).setCell (p:=⟨gc,i,I⟩) (by simp) _;refine⟨A,c,S,Ao,co,So,ko (i:=i) (v:=v) h.ly (by rw[hrow,hs,ho]),?_,?_,h.lG,h.cs,hk,a0.fH h.fH (fun b hb=>by simp at hb;exact hb ▸ h.lc),h.lc,h.ls,h.lo,fun p hp=>?_⟩
 ·rw[hs]
  exact h.stack.gu a0 (fun x hx hm=>by simp at hm;exact h.cs.1 (hm ▸ hx))
 ·rw[ho]
  exact h.out.gu a0 (fun x hx hm=>by simp at hm;exact h.cs.2 (hm ▸ hx))
 ·obtain⟨h1,h2,h3⟩:=h.kb p hp
  exact⟨(a0.block p.1 (blt h1) (by simpa using h2)).trans h1,h2,h3⟩
theorem je.kept {o:Obj} (h:je B Y W Ve gc bad m)(hp:(g,o)∈B):W.heap[g]?=F o:=by
 obtain⟨A,c,S,Ao,co,So,h⟩:=h;exact(h.kb (g,o) hp).1
theorem je.fH {B:D (Nat × Obj)}{Y W W':V}{Ve gc:Nat}{bad:Bool}{m:fF}(h:je B Y W Ve gc bad m)(hg:fy W W'):je B Y W' Ve gc bad m:=by
 obtain⟨A,c,S,Ao,co,So,h⟩:=h;exact⟨A,c,S,Ao,co,So,zj h.ly hg,h.stack.fH hg,h.out.fH hg,h.lG,h.cs,h.ok,h.fH.trans hg,h.lc,h.ls,h.lo,fun p hp=>⟨zj (h.kb p hp).1 hg,(h.kb p hp).2⟩⟩
theorem je.lu {cs:Array Value} {t:Wl} (h:je B Y W Ve gc bad m):je ((W.heap.size,U cs t (0,0))::B) Y (W.alloc (U cs t)) Ve gc bad m:=by
 obtain⟨A,c,S,Ao,co,So,h⟩:=h;have hg:fy W (W.alloc (U cs t)):=(fy.refl _).alloc _;refine⟨A,c,S,Ao,co,So,zj h.ly hg,h.stack.fH hg,h.out.fH hg,h.lG,h.cs,h.ok,h.fH.trans hg,h.lc,h.ls,h.lo,fun p hp=>?_⟩;rcases VT.1 hp with rfl | hp
 ·refine⟨Vj _ _,?_,fun hm=>?_,fun hm=>?_⟩
  ·have:=(blt h.ly)
   simp only[ne_eq];omega
  ·have:=h.stack.lt _ hm
   simp only at this;omega
  ·have:=h.out.lt _ hm
   simp only at this;omega
 ·obtain⟨h1,h2⟩:=h.kb p hp
  exact⟨zj h1 hg,h2⟩
theorem je.drop {B':D (Nat × Obj)} (h:je B Y W Ve gc bad m)(hs:∀ p∈B',p∈B):je B' Y W Ve gc bad m:=by
 obtain⟨A,c,S,Ao,co,So,h⟩:=h;exact⟨A,c,S,Ao,co,So,h.ly,h.stack,h.out,h.lG,h.cs,h.ok,h.fH,h.lc,h.ls,h.lo,fun p hp=>h.kb p (hs p hp)⟩
theorem je.word (h:je B Y W Ve gc bad m){k:Nat}(hk:k<1200) :
  ∃ gs v c,Vg W ⟨gc,3,I⟩=F (J (F ⟨gs,0,I⟩) m.fK.length c)/\gs<W.heap.size/\(∀ j,VE W ⟨gs,j,I⟩=M)/\m.fK[k]?=F v/\fQ v/\Vg W ⟨gs,k,I⟩=F (C Z v)/\gs≠gc/\
   ∀ u,fQ u->je B Y (W.setCell ⟨gs,k,I⟩ (C Z u)) Ve gc bad { m with fK:=m.fK.set k u }:=by
 obtain⟨A,c,S,Ao,co,So,h⟩:=h;obtain⟨v,hv⟩:∃ v,m.fK[k]?=F v:=⟨_,Vq (by rw[h.ok.len];exact hk)⟩
 obtain⟨gs,ec,Sc,rfl,a4,a5,a7,a6,a8,hO,a3,a0,a1,_⟩:=sA h.stack.1 h.stack.2 hv;obtain⟨rfl,b1,b2,rfl⟩:=hO;have a2:=a0 0 _ rfl;rw[show k*zv.size+0=k from by show k*1+0=k;omega] at a2;obtain⟨z0,z1,z2,z3,z4,z5,z6,z7,zf,zl⟩:=vt h.ly;refine⟨gs,v,c,z3,a5,a3,hv,⟨b1,b2⟩,a2,fun e=>h.cs.1 (e ▸ a4),fun u hu=>?_⟩;have hp:=a1 0 (C Z u) u gv rfl ⟨rfl,hu.1,hu.2,rfl⟩;rw[show k*zv.size+0=k from by show k*1+0=k;omega] at hp;refine⟨F ⟨gs,0,I⟩,c,S,Ao,co,So,?_,?_,h.out.gu hp.2 (fun x hx hm=>h.lG x hm hx),h.lG,h.cs,⟨by simpa using h.ok.len,h.ok.out,h.ok.pc,h.ok.sp,h.ok.fp,h.ok.st,h.ok.va⟩,hp.2.fH h.fH h.ls,h.lc,h.ls,h.lo,fun p hp'=>⟨(hp.2.block p.1 (Wt.1 (h.kb p hp').1).1 (h.kb p hp').2.2.1).trans (h.kb p hp').1,(h.kb p hp').2⟩⟩
 ·have hm:=(hp.2.block gc (blt h.ly) h.cs.1).trans h.ly
  simpa only[VY] using hm
 ·have h9:Has (zv.sl 3) (W.setCell ⟨gs,k,I⟩ (C Z u)) [J (F ⟨gs,0,I⟩) m.fK.length c] (m.fK.set k u) S:=⟨hp.1,h.stack.2⟩
  simpa only[VY] using h9
theorem rS {a:V} (h:fy a b){p:VQ}{v:Value}(hp:a.cell? p=F v):b.cell? p=F v:=by
 obtain⟨os,d,rfl⟩:=h;exact zd hp os d
theorem Tl (h:(bad || !gE m.Sp 0 1199)=H):(iT bad m).bind iR=I:=by
 cases bad with
 | true=>rfl
 | false=>
  show iR m=I;unfold iR;rw[vQ (by simpa using h)];rfl
theorem CC {P:Program} {id:Nat} {Vc:Exit->Act->V->Prop} {a:Act} {l:D Oper} (n:Nat)(hm:P.follows .mixedOrders=H)(hB:Region.lexTailB .any l.toArray n=H)
  (h:∀ w',fy w w'->wpStill P l.toArray w' (fun a'=>wpList P l.toArray Vc (l.drop n) a' w') (l.take n) a):(Code.region id l.toArray H).wp P Vc a w:=
 wp_region_still_tail n hm hB (h w.drew ((fy.refl _).drew))
section
variable {es:D Int} {m:fF} {arg:Int}
theorem Mv (h:5<=code/\code<=9):zR es m code arg=(iR m).bind fun p=>(iR p.1).bind fun q=>jm q.1 (kS code q.2 p.2):=by
 unfold zR
 iterate 13 rw[Vo fh]
theorem O4 (h:5<=code/\code<=9):(o.bind fun m=>zR es m code arg)=o.bind fun m=>(iR m).bind fun p=>(iR p.1).bind fun q=>jm q.1 (kS code q.2 p.2):=by
 cases o with
 | none=>rfl
 | some m=>exact Mv h
theorem LU:(o.bind fun m=>zR es m 12 arg)=o.bind fun m=>(jm m m.Pc).bind fun m'=>(es[arg.toNat]?).map fun e=>{ m' with Pc:=e }:=rfl
theorem UF:(o.bind fun m=>zR es m 13 arg)=o.bind fun m=>(jm m m.Fp).bind fun m'=>qR arg.toNat { m' with Fp:=m'.Sp }:=rfl
theorem IJ {b:Bool} {m:fF} {f:fF->Int} (hf:f m=v){K:fF->N fF}(h:iT b m1=(iT M m).bind fun m=>jm m v):((iT M m).bind fun m=>(jm m (f m)).bind K)=(iT b m1).bind K:=by
 rw[h];show (jm m (f m)).bind K=(jm m v).bind K;rw[hf]
theorem Sm {m:fF} {n:Int} (h:fQ a)(hn : -32768<=n/\n<=32767):mW m (Xr (a+n))=mW m (a+n):=by
 obtain⟨h1,h2⟩:=h;by_cases hb : -9223372036854775808<=a+n/\a+n<=9223372036854775807
 ·rw[uq hb.1 hb.2]
 ·have e1:gE (Xr (a+n)) 0 1199=M:=by
   cases hq:gE (Xr (a+n)) 0 1199 with
   | false=>rfl
   | true=>
    have:=zr.1 hq;unfold Xr at this;omega
  have e2:gE (a+n) 0 1199=M:=by
   cases hq:gE (a+n) 0 1199 with
   | false=>rfl
   | true=>
    have:=zr.1 hq;omega
  rw[vQ e1,vQ e2]
theorem BJ {m:fF} (h:gE a 0 1199=M):nI m a v=I:=by
 unfold nI;rw[h];rfl
theorem Qa {m:fF} {n:Int} (h:fQ a)(hn : -32768<=n/\n<=32767):nI m (Xr (a+n)) v=nI m (a+n) v:=by
 obtain⟨h1,h2⟩:=h;by_cases hb : -9223372036854775808<=a+n/\a+n<=9223372036854775807
 ·rw[uq hb.1 hb.2]
 ·have e1:gE (Xr (a+n)) 0 1199=M:=by
   cases hq:gE (Xr (a+n)) 0 1199 with
   | false=>rfl
   | true=>
    have:=zr.1 hq;unfold Xr at this;omega
  have e2:gE (a+n) 0 1199=M:=by
   cases hq:gE (a+n) 0 1199 with
   | false=>rfl
   | true=>
    have:=zr.1 hq;omega
  rw[BJ e1,BJ e2]
theorem Mx (c a b:Int):fQ (kS c a b):=by
 unfold kS;split
 ·exact AJ _
 ·split
  ·exact AJ _
  ·split
   ·exact AJ _
   ·split
    ·split <;> exact⟨gv,gv⟩
    ·split
     ·split <;> exact⟨gv,gv⟩
     ·exact⟨gv,gv⟩
theorem Rj {b7 b8:Bool} {m7 m8:fF} {v5:Int} (h1:(iT b1 m1).map (fun m=>(m,v1))=(iT M m).bind iR)(h3:(iT b3 m3).map (fun m=>(m,v3))=(iT b1 { m1 with Sp:=m1.Fp }).bind iR)
  (h5:(iT b5 m5).map (fun m=>(m,v5))=(iT b3 { m3 with Fp:=v3 }).bind iR) (h7:iT b7 m7=(iT b5 { m5 with Pc:=v5 }).bind fun m=>kt arg.toNat m) (h8:iT b8 m8=(iT b7 m7).bind fun m=>jm m v1) :
  iT b8 m8=(iT M m).bind fun m=>zR es m 14 arg:=by
 show _=(iT M m).bind fun m=>(iR m).bind fun p=>(iR { p.1 with Sp:=p.1.Fp }).bind fun q=>(iR { q.1 with Fp:=q.2 }).bind fun r=>(kt arg.toNat { r.1 with Pc:=r.2 }).bind fun m'=>jm m' p.2;rw[td (K:=fun p=>(iR { p.1 with Sp:=p.1.Fp }).bind fun q=>(iR { q.1 with Fp:=q.2 }).bind fun r=>(kt arg.toNat { r.1 with Pc:=r.2 }).bind fun m'=>jm m' p.2) h1];have e1:((iT b1 m1).bind fun m=>(iR { m with Sp:=m.Fp }).bind fun q=>(iR { q.1 with Fp:=q.2 }).bind fun r=>(kt arg.toNat { r.1 with Pc:=r.2 }).bind fun m'=>jm m' v1)=(iT b1 { m1 with Sp:=m1.Fp }).bind fun m=>(iR m).bind fun q=>(iR { q.1 with Fp:=q.2 }).bind fun r=>(kt arg.toNat { r.1 with Pc:=r.2 }).bind fun m'=>jm m' v1:=by cases b1 <;> rfl
 refine Eq.trans ?_ e1.symm;rw[td (K:=fun q=>(iR { q.1 with Fp:=q.2 }).bind fun r=>(kt arg.toNat { r.1 with Pc:=r.2 }).bind fun m'=>jm m' v1) h3];have e3:((iT b3 m3).bind fun m=>(iR { m with Fp:=v3 }).bind fun r=>(kt arg.toNat { r.1 with Pc:=r.2 }).bind fun m'=>jm m' v1)=(iT b3 { m3 with Fp:=v3 }).bind fun m=>(iR m).bind fun r=>(kt arg.toNat { r.1 with Pc:=r.2 }).bind fun m'=>jm m' v1:=by cases b3 <;> rfl
 refine Eq.trans ?_ e3.symm;rw[td (K:=fun r=>(kt arg.toNat { r.1 with Pc:=r.2 }).bind fun m'=>jm m' v1) h5];have e5:((iT b5 m5).bind fun m=>(kt arg.toNat { m with Pc:=v5 }).bind fun m'=>jm m' v1)=((iT b5 { m5 with Pc:=v5 }).bind fun m=>kt arg.toNat m).bind fun m'=>jm m' v1:=by cases b5 <;> rfl
 refine Eq.trans ?_ e5.symm;rw[<-h7];exact h8
theorem La {m:fF} (h:iR m=F (m1,v)):m1 = { m with Sp:=m.Sp+1 }:=by
 unfold iR at h;cases hc:mW m m.Sp with
 | none=>rw[hc] at h;cases h
 | some u=>
  rw[hc] at h;injection h with h
  injection h with h1 h2
  exact h1.symm
theorem SU (n:Int):fQ (Xr n):=by
 unfold Xr;exact⟨fh,fh⟩
theorem SV (h1:(iT b1 m1).map (fun m=>(m,(0:Int)))=(iT M m).bind iR)(hp : -4611686018427387904<=m.Pc/\m.Pc<=4611686018427387904)(ha : -32768<=arg/\arg<=32767) :
  iT b1 { m1 with Pc:=Xr (m1.Pc+arg) }=(iT M m).bind fun m=>zR es m 11 arg:=by
 have h2:(iT b1 m1).map (fun m=>(m,(0:Int)))=iR m:=h1;show _=(iR m).map fun p=>if p.2=0 then { p.1 with Pc:=p.1.Pc+arg } else p.1
 rw[<-h2];cases b1 with
 | true=>rfl
 | false=>
  have h3:=La h2.symm;show F { m1 with Pc:=Xr (m1.Pc+arg) }=F { m1 with Pc:=m1.Pc+arg };have h4:m1.Pc=m.Pc:=by rw[h3]
  rw[h4,uq fh fh]
theorem UE (h1:(iT b1 m1).map (fun m=>(m,v))=(iT M m).bind iR)(hv:¬ v=0) :
  iT b1 m1=(iT M m).bind fun m=>zR es m 11 arg:=by
 have h2:(iT b1 m1).map (fun m=>(m,v))=iR m:=h1;show _=(iR m).map fun p=>if p.2=0 then { p.1 with Pc:=p.1.Pc+arg } else p.1
 rw[<-h2];cases b1 with
 | true=>rfl
 | false=>
  show F m1=F (if v=0 then _ else m1);rw[Vo hv]
theorem Uh (h1:(iT b1 m1).map (fun m=>(m,v))=(iT M m).bind iR) :
  iT b1 { m1 with iE:=m1.iE++[v] }=(iT M m).bind fun m=>zR es m 17 arg:=by
 have h2:(iT b1 m1).map (fun m=>(m,v))=iR m:=h1;show _=(iR m).map fun p=>{ p.1 with iE:=p.1.iE++[p.2] };rw[<-h2];cases b1 <;> rfl
theorem Uj {a:Nat} {b6:Bool} {m6:fF} (h1:(iT b1 m1).map (fun m=>(m,v1))=(iT M m).bind iR)(h2:iT b2 m2=(iT b1 m1).bind fun m=>kt ((a:Int) / 16).toNat m)
  (h3:(iT b3 m3).map (fun m=>(m,v3))=(iT b2 m2).bind iR) (h5:iT b5 m5=(iT b3 { m3 with Pc:=v3 }).bind fun m=>kt ((a:Int) % 16).toNat m) (h6:iT b6 m6=(iT b5 m5).bind fun m=>jm m v1) :
  iT b6 m6=(iT M m).bind fun m=>zR es m 16 (a:Int):=by
 show _=(iT M m).bind fun m=>(iR m).bind fun p=>(kt (a / 16) p.1).bind fun m1=>(iR m1).bind fun r=>(kt (a % 16) { r.1 with Pc:=r.2 }).bind fun m'=>jm m' p.2;rw[td (K:=fun p=>(kt (a / 16) p.1).bind fun m1=>(iR m1).bind fun r=>(kt (a % 16) { r.1 with Pc:=r.2 }).bind fun m'=>jm m' p.2) h1];rw[show ((a:Int) / 16).toNat=a / 16 from fh] at h2;rw[show ((a:Int) % 16).toNat=a % 16 from fh] at h5;have e1:((iT b1 m1).bind fun m=>(kt (a / 16) m).bind fun m1=>(iR m1).bind fun r=>(kt (a % 16) { r.1 with Pc:=r.2 }).bind fun m'=>jm m' v1)=((iT b1 m1).bind fun m=>kt (a / 16) m).bind fun m=>(iR m).bind fun r=>(kt (a % 16) { r.1 with Pc:=r.2 }).bind fun m'=>jm m' v1:=by cases b1 <;> rfl
 refine Eq.trans ?_ e1.symm;rw[<-h2,td (K:=fun r=>(kt (a % 16) { r.1 with Pc:=r.2 }).bind fun m'=>jm m' v1) h3];have e3:((iT b3 m3).bind fun m=>(kt (a % 16) { m with Pc:=v3 }).bind fun m'=>jm m' v1)=((iT b3 { m3 with Pc:=v3 }).bind fun m=>kt (a % 16) m).bind fun m'=>jm m' v1:=by cases b3 <;> rfl
 refine Eq.trans ?_ e3.symm;rw[<-h5];exact h6
end
def Me (gc:Nat)(W W':V):Prop:=∀ i v,i≠1->i≠7->Vg W ⟨gc,i,I⟩=F v->Vg W' ⟨gc,i,I⟩=F v
def jw (f:fF->N fF)(B:D (Nat × Obj))(Y:V)(Ve gc:Nat)(bad:Bool)(m:fF)(r:Z9)(W':V):Prop:=
 r=.returned (.tuple #[])/\∃ b' m',je B Y W' Ve gc b' m'/\iT b' m'=(iT bad m).bind f
def Mj (B:D (Nat × Obj))(Y:V)(Ve gc:Nat)(bad:Bool)(m:fF)(r:Z9)(W':V):Prop:=
 ∃ v b' m',fQ v/\r=.returned (C Z v)/\je B Y W' Ve gc b' m'/\(iT b' m').map (fun m=>(m,v))=(iT bad m).bind iR
def Mh (B:D (Nat × Obj))(Y:V)(Ve gc:Nat)(bad:Bool)(m:fF)(a:Int)(r:Z9)(W':V):Prop:=
 ∃ v,fQ v/\r=.returned (C Z v)/\je B Y W' Ve gc (bad || !gE a 0 1199) m/\(gE a 0 1199=H->m.fK[a.toNat]?=F v)
theorem xd {g:Prop} (f:g:=by
  have HC:=fk (h.num (i:=7) (v:=X H) (bad':=H) (m':=m) rfl rfl hk (fun _ _=>rfl))
  clear h hno hk
  go_enter func136,ntmps136
  go_wp2_with(fail)
  exact Wp (v:=.tuple #[]) (by simp[VF,results136,go_sem]) rfl ⟨rfl,H,m,HC.out,HQ.out⟩):g:=f
theorem zeU (h:je B Y W Ve gc bad m)(hv:fQ v) :
  VK prog 136 #[.pointer (F ⟨gc,0,I⟩),C Z v] W (jw (fun m=>jm m v) B Y Ve gc bad m):=by
 obtain⟨A,c,Ao,co,z0,z1,z2,z3,z4,z5,z6,z7,zf,zl,hk⟩:=h.cells
 have hno:gE m.Sp 1 1200=M->(iT H m)=(iT bad m).bind fun m=>jm m v:=fun hb=>by
  cases bad with
  | true=>rfl
  | false=>
   show I=jm m v;unfold jm;rw[hb];rfl
 by_cases h1:m.Sp<1
 ·have HQ:=fk (hno (by cases hq:gE m.Sp 1 1200 with | false=>rfl | true=>have:=zr.1 hq;omega))
  exact xd
 ·by_cases h2:1200<m.Sp
  ·have HQ:=fk (hno (by cases hq:gE m.Sp 1 1200 with | false=>rfl | true=>have:=zr.1 hq;omega))
   exact xd
  ·obtain⟨k,a2⟩:=VI (show 0<=m.Sp-1 from fh)
   have a6:m.Sp=((k+1:Nat):Int):=fh;have a1:k<1200:=fh
   have HQ:=fk (show iT bad { m with Sp:=(k:Int),fK:=m.fK.set k v }=(iT bad m).bind fun m=>jm m v from by
    cases bad with
    | true=>rfl
    | false=>
     show _=jm m v;unfold jm;rw[Vs (pU fh fh),a6,show ((k+1:Nat):Int)-1=(k:Int) from fh]
     rfl)
   have hI:fQ (k:Int):=⟨fh,fh⟩
   have a0:=h.num (i:=1) (v:=C Z (k:Int)) (bad':=bad) (m':={ m with Sp:=(k:Int) }) rfl rfl ⟨hk.len,hk.out,hk.pc,hI,hk.fp,hk.st,hk.va⟩ (fun _ _=>rfl);have a5:=fk a0;clear hno h hk a0 h1 h2 a2;have aa:¬ ((k:Int)+1<1):=fh;have ab:¬ (1200<(k:Int)+1):=fh;go_enter func136,ntmps136;go_upto_region 3 with(fail);have a0:=a5.out;clear a5;generalize W.setCell _ _=w2 at a0 |-;refine CC 12 gU gU (fun wx hgx=>?_);have hX:=a0.fH hgx;clear z0 z1 z2 z3 z4 z5 z6 z7 zf zl;obtain⟨A2,c2,a7,a8,z0,z1,z2,z3,z4,z5,z6,z7,zf,zl,a2⟩:=hX.cells;obtain⟨gs,vo,cs,x3,xl,xf,xv,xb,xc,ac,a4⟩:=hX.word a1;have a3:((1200:Nat):Int)=m.fK.length:=by rw[<-a2.len]
   have a9:(k:Int)<(m.fK.length:Int):=by rw[<-a3];omega
   clear z3;have z3:=x3;simp only[Wz,Xk,WR,WQ]
   repeat still_step
   refine XZ ?_;go_wp2_with(fail);exact Wp (v:=.tuple #[]) (by simp[VF,results136,go_sem]) rfl ⟨rfl,bad,_,a4 v hv,HQ.out⟩
theorem zqc (h:je B Y W Ve gc bad m) :
  VK prog 86 #[.pointer (F ⟨gc,0,I⟩),C Z a] W (fun r W'=>Mh B Y Ve gc bad m a r W'/\Me gc W W'):=by
 obtain⟨A,c,Ao,co,z0,z1,z2,z3,z4,z5,z6,z7,zf,zl,hk⟩:=h.cells;obtain⟨q,hq⟩:∃ q,gE a 0 1199=q:=⟨_,rfl⟩
 have HA:=fk hq;cases q with
 | false=>
  have HC:=fk (h.num (i:=7) (v:=X H) (bad':=H) (m':=m) rfl rfl hk (fun _ _=>rfl));clear h hk hq;go_enter func86,ntmps86;go_wp2_with(go_at_call 43;refine(iU _ _ _ _).mono ?_;rw[HA.out];rintro e w1 ⟨rfl,rfl⟩);go_ret;refine⟨⟨0,⟨gv,gv⟩,rfl,?_,fun hb=>?_⟩,fun i v h1 h7 hv=>(World.cell?_setCell_other _ ⟨gc,7,I⟩ ⟨gc,i,I⟩ _ (fun he=>by injection he;omega)).trans hv⟩
  ·rw[HA.out]
   have h9:=HC.out;cases bad <;> exact h9
  ·rw[HA.out] at hb
   cases hb
 | true=>
  have a3:=zr.1 hq;obtain⟨k,rfl⟩:=VI (show 0<=a from fh);have a0:k<1200:=fh;obtain⟨gs,vo,cs,x3,xl,xf,xv,xb,xc,a5,a2⟩:=h.word a0;have a1:((1200:Nat):Int)=m.fK.length:=by rw[<-hk.len]
  have a4:(k:Int)<(m.fK.length:Int):=by rw[<-a1];omega
  have HC:=fk h;have HV:=fk xv;clear h hk hq z3 xv a2;go_enter func86,ntmps86;go_wp2_with(go_at_call 43;refine(iU _ _ _ _).mono ?_;rw[HA.out];rintro e w1 ⟨rfl,rfl⟩);go_ret;refine⟨⟨vo,xb,rfl,?_,fun _=>HV.out⟩,fun i v _ _ hv=>hv⟩;rw[HA.out];have h9:=HC.out;cases bad <;> exact h9
theorem LS (h:je B Y W Ve gc bad m) :
  VK prog 86 #[.pointer (F ⟨gc,0,I⟩),C Z a] W (Mh B Y Ve gc bad m a):=(zqc h).mono fun _ _ h=>h.1
theorem zpO (h:je B Y W Ve gc bad m) :
  VK prog 139 #[.pointer (F ⟨gc,0,I⟩)] W (fun r W'=>Mj B Y Ve gc bad m r W'/\Me gc W W'):=by
 obtain⟨A,c,Ao,co,z0,z1,z2,z3,z4,z5,z6,z7,zf,zl,hk⟩:=h.cells;obtain⟨sp,a3⟩:∃ sp,m.Sp=sp:=⟨_,rfl⟩
 have a1:=fk a3;rw[a3] at z1;have HC:=fk h;have hI:=hk.sp;rw[a3] at hI;clear h hk a3;go_enter func139,ntmps139;go_upto_region 2 with(go_at_call 86;refine(zqc HC.out).mono ?_;rintro e w1 ⟨⟨v1,a7,rfl,a2,a6⟩,a5⟩);have a4:=fk a5;have aa:=fk a6;clear a5 a6;obtain⟨q,hq⟩:∃ q,(bad || !gE sp 0 1199)=q:=⟨_,rfl⟩
 rw[hq] at a2;clear z0 z1 z2 z3 z4 z5 z6 z7 zf zl;obtain⟨A2,c2,ac,ad,z0,z1,z2,z3,z4,z5,z6,z7,zf,zl,a0⟩:=a2.cells;rw[a1.out] at z1;cases q with
 | true=>
  have HQ:=fk (Tl (m:=m) (by rw[a1.out];exact hq));have a8:=fk a2;clear a2 hq a0;go_wp2_with(fail);go_ret;exact⟨⟨v1,H,m,a7,rfl,a8.out,HQ.out.symm⟩,a4.out⟩
 | false=>
  obtain⟨rfl,hb⟩:bad=M/\gE sp 0 1199=H:=by simpa using hq
  have ae:=zr.1 hb
  have HQ:=fk (show (iT M m).bind iR=F ({ m with Sp:=sp+1 },v1) from by
   show iR m=_;unfold iR;rw[Gb (v:=v1) (by rw[a1.out];exact hb) (by rw[a1.out];exact aa.out hb),a1.out]
   rfl)
  have ab:fQ (sp+1):=⟨fh,fh⟩
  have a9:=fk (a2.num (i:=1) (v:=C Z (sp+1)) (bad':=M) (m':={ m with Sp:=sp+1 }) rfl rfl ⟨a0.len,a0.out,a0.pc,ab,a0.fp,a0.st,a0.va⟩ (fun _ _=>by rw[a1.out];rfl));clear a2 hq a0 hb;go_wp2_with(fail);go_ret;exact⟨⟨v1,M,_,a7,rfl,a9.out,HQ.out.symm⟩,fun i v h1 h7 hv=>(World.cell?_setCell_other _ ⟨gc,1,I⟩ ⟨gc,i,I⟩ _ (fun he=>by injection he;omega)).trans (a4.out i v h1 h7 hv)⟩
theorem ve (h:je B Y W Ve gc bad m) :
  VK prog 139 #[.pointer (F ⟨gc,0,I⟩)] W (Mj B Y Ve gc bad m):=(zpO h).mono fun _ _ h=>h.1
theorem zy6 (h:je B Y W Ve gc bad m)(hv:fQ v) :
  VK prog 138 #[.pointer (F ⟨gc,0,I⟩),C Z a,C Z v] W (jw (fun m=>nI m a v) B Y Ve gc bad m):=by
 obtain⟨A,c,Ao,co,z0,z1,z2,z3,z4,z5,z6,z7,zf,zl,hk⟩:=h.cells;obtain⟨q,hq⟩:∃ q,gE a 0 1199=q:=⟨_,rfl⟩
 have HA:=fk hq;cases q with
 | false=>
  have HC:=fk (h.num (i:=7) (v:=X H) (bad':=H) (m':=m) rfl rfl hk (fun _ _=>rfl))
  have HQ:=fk (show iT H m=(iT bad m).bind fun m=>nI m a v from by
   cases bad with
   | true=>rfl
   | false=>exact(BJ hq).symm)
  clear h hk hq;go_enter func138,ntmps138;go_wp2_with(go_at_call 43;refine(iU _ _ _ _).mono ?_;rw[HA.out];rintro e w1 ⟨rfl,rfl⟩);exact Wp (v:=.tuple #[]) (by simp[VF,results138,go_sem]) rfl ⟨rfl,H,m,HC.out,HQ.out⟩
 | true=>
  have a3:=zr.1 hq;obtain⟨k,rfl⟩:=VI (show 0<=a from fh);have a1:k<1200:=fh;obtain⟨gs,vo,cs,x3,xl,xf,xv,xb,xc,a5,a0⟩:=h.word a1;have a2:((1200:Nat):Int)=m.fK.length:=by rw[<-hk.len]
  have a4:(k:Int)<(m.fK.length:Int):=by rw[<-a2];omega
  have HP:=fk (a0 v hv)
  have HQ:=fk (show iT bad { m with fK:=m.fK.set k v }=(iT bad m).bind fun m=>nI m (k:Int) v from by
   cases bad with
   | true=>rfl
   | false=>
    show _=nI m (k:Int) v;unfold nI;rw[Vs hq]
    rfl)
  clear h hk hq z3 xv a0;go_enter func138,ntmps138;go_wp2_with(go_at_call 43;refine(iU _ _ _ _).mono ?_;rw[HA.out];rintro e w1 ⟨rfl,rfl⟩);exact Wp (v:=.tuple #[]) (by simp[VF,results138,go_sem]) rfl ⟨rfl,bad,_,HP.out,HQ.out⟩
theorem zsz {n:Int} (h:je B Y W Ve gc bad m)(hn0:0<=n)(hn:n<=9223372036854775807) :
  VK prog 141 #[.pointer (F ⟨gc,0,I⟩),C Z n] W (jw (fun m=>kt n.toNat m) B Y Ve gc bad m):=by
 go_enter func141,ntmps141;go_wp2;go_loopw [4] (fun a wr=>∃(k:Int) (b1:Bool) (m1:fF),a=C Z k/\0<=k/\k<=n/\Hid (je B Y wr Ve gc b1 m1)/\Hid ((iT bad m).bind (fun m=>kt n.toNat m)=(iT b1 m1).bind fun m=>kt (n-k).toNat m)) (fun a _=>(n-Wj a).toNat)
 case atStart=>exact⟨0,bad,m,rfl,fh,hn0,fk h,fk (by rw[Int.sub_zero])⟩
 case round=>
  obtain⟨k,b1,m1,rfl,a2,a3,hS,hO⟩:=hrel;by_cases hlt:k<n
  ·go_wp2_with(go_at_call 139;refine(ve hS.out).mono ?_;rintro e w1 ⟨v,b2,m2,hv,rfl,a0,a1⟩)
   go_roundw
   case measure=>exact iC
   case rel=>
    refine⟨k+1,b2,m2,gm,fh,fh,fk a0,fk (hO.out.trans ?_)⟩;have h3:(n-k).toNat=(n-(k+1)).toNat+1:=fh;rw[h3];exact td (K:=fun p=>kt (n-(k+1)).toNat p.1) a1
  ·go_wp2_with(fail)
   refine Wp (v:=.tuple #[]) (by simp[VF,results141,go_sem]) rfl ⟨rfl,b1,m1,hS.out,?_⟩;rw[hO.out,show (n-k).toNat=0 from fh];cases b1 <;> rfl
theorem zup {n:Int} (h:je B Y W Ve gc bad m)(hn0:0<=n)(hn:n<=9223372036854775807) :
  VK prog 140 #[.pointer (F ⟨gc,0,I⟩),C Z n] W (jw (fun m=>qR n.toNat m) B Y Ve gc bad m):=by
 have hz:fQ 0:=⟨gv,gv⟩
 go_enter func140,ntmps140;go_wp2;go_loopw [4] (fun a wr=>∃(k:Int) (b1:Bool) (m1:fF),a=C Z k/\0<=k/\k<=n/\Hid (je B Y wr Ve gc b1 m1)/\Hid ((iT bad m).bind (fun m=>qR n.toNat m)=(iT b1 m1).bind fun m=>qR (n-k).toNat m)) (fun a _=>(n-Wj a).toNat)
 case atStart=>exact⟨0,bad,m,rfl,fh,hn0,fk h,fk (by rw[Int.sub_zero])⟩
 case round=>
  obtain⟨k,b1,m1,rfl,a2,a3,hS,hO⟩:=hrel;by_cases hlt:k<n
  ·go_wp2_with(go_at_call 136;refine(zeU (v:=0) hS.out hz).mono ?_;rintro e w1 ⟨rfl,b2,m2,a0,a1⟩)
   go_roundw
   case measure=>exact iC
   case rel=>
    refine⟨k+1,b2,m2,gm,fh,fh,fk a0,fk (hO.out.trans ?_)⟩;have h3:(n-k).toNat=(n-(k+1)).toNat+1:=fh;rw[h3];exact P8 (K:=fun m=>qR (n-(k+1)).toNat m) a1
  ·go_wp2_with(fail)
   refine Wp (v:=.tuple #[]) (by simp[VF,results140,go_sem]) rfl ⟨rfl,b1,m1,hS.out,?_⟩;rw[hO.out,show (n-k).toNat=0 from fh];cases b1 <;> rfl
def tE (a n:Int):Int:=if gE a (-100000) 100000=H then a+n else -1
theorem xz {g:Prop} (f:g:=by
  clear hq
  go_enter func137,ntmps137
  go_wp2_with(go_at_call 43;refine(iU _ _ _ _).mono ?_;rw[HA.out];rintro e w1 ⟨rfl,rfl⟩)
  rw[HN.out]
  go_ret
  exact⟨rfl,rfl⟩):g:=f
theorem Lo (a n:Int)(w:V)(hn : -32768<=n/\n<=32767):VK prog 137 #[C Z a,C Z n] w fun r w'=>r=.returned (C Z (tE a n))/\w=w':=by
 obtain⟨q,hq⟩:∃ q,gE a (-100000) 100000=q:=⟨_,rfl⟩
 have HA:=fk hq;cases q with
 | false=>
  have HN:=fk (show tE a n = -1 from by unfold tE;rw[hq];rfl);exact xz
 | true=>
  have hb:=zr.1 hq;have HN:=fk (show tE a n=a+n from by unfold tE;rw[hq];rfl);exact xz
theorem KN {n:Int} (hn : -32768<=n/\n<=32767):gE (tE a n) 0 1199=gE (a+n) 0 1199/\(gE (a+n) 0 1199=H->tE a n=a+n):=by
 unfold tE;by_cases hq:gE a (-100000) 100000=H
 ·rw[Vs hq]
  exact⟨rfl,fun _=>rfl⟩
 ·rw[Vo hq]
  have h2:gE (a+n) 0 1199=M:=by
   cases hb:gE (a+n) 0 1199 with
   | false=>rfl
   | true=>
    have:=zr.1 hb;exact absurd (pU fh fh) hq
  rw[h2];exact⟨rfl,fun h=>by cases h⟩
theorem P9 {n:Int} (hn : -32768<=n/\n<=32767):nI m (tE a n) v=nI m (a+n) v:=by
 obtain⟨h1,h2⟩:=KN (a:=a) hn;cases hb:gE (a+n) 0 1199 with
 | true=>rw[h2 hb]
 | false=>rw[BJ hb,BJ (by rw[h1,hb])]
theorem Sk {n:Int} (hn : -32768<=n/\n<=32767):mW m (tE a n)=mW m (a+n):=by
 obtain⟨h1,h2⟩:=KN (a:=a) hn;cases hb:gE (a+n) 0 1199 with
 | true=>rw[h2 hb]
 | false=>rw[vQ hb,vQ (by rw[h1,hb])]
theorem KR (hW:gE a 0 1199=H->m.fK[a.toNat]?=F v)(ho:iT b2 m2=(iT (bad || !gE a 0 1199) m).bind fun m=>jm m v):iT b2 m2=(iT bad m).bind fun m=>(mW m a).bind fun v=>jm m v:=by
 rw[ho];cases bad with
 | true=>rfl
 | false=>
  cases hb:gE a 0 1199 with
  | true=>
   show jm m v=(mW m a).bind _;rw[Gb hb (hW hb)];rfl
  | false=>
   show I=(mW m a).bind _;rw[vQ hb];rfl
theorem Ri {arg:Int} (h1:(iT b1 m1).map (fun m=>(m,v1))=(iT M m).bind iR)(hf:gE m1.Fp 0 1200=M):I=(iT M m).bind fun m=>zR es m 14 arg:=by
 show _=(iT M m).bind fun m=>(iR m).bind fun p=>(iR { p.1 with Sp:=p.1.Fp }).bind fun q=>(iR { q.1 with Fp:=q.2 }).bind fun r=>(kt arg.toNat { r.1 with Pc:=r.2 }).bind fun m'=>jm m' p.2;rw[td (K:=fun p=>(iR { p.1 with Sp:=p.1.Fp }).bind fun q=>(iR { q.1 with Fp:=q.2 }).bind fun r=>(kt arg.toNat { r.1 with Pc:=r.2 }).bind fun m'=>jm m' p.2) h1];cases b1 with
 | true=>rfl
 | false=>
  show I=(iR { m1 with Sp:=m1.Fp }).bind _
  have h2:gE m1.Fp 0 1199=M:=by
   cases hq:gE m1.Fp 0 1199 with
   | false=>rfl
   | true=>
    have:=zr.1 hq;rw[pU fh fh] at hf;cases hf
  unfold iR;rw[vQ h2];rfl
theorem qZ.l5 {W7:V} {Ao:N VQ} {co:Nat} {So:D Nat} {A7:N VQ} {c7:Nat} {S7:D Nat} (h:qZ B Y W Ve gc bad m A c S Ao co So)
  (hon:fG So W W7) (hH:Has (zv.sl 3) W7 [J A7 (m.iE.length+1) c7] (m.iE++[v]) S7) (hS:∀ b∈S7,b∈So∨W.heap.size<=b) :
  qZ B Y (W7.setCell ⟨gc,4,I⟩ (J A7 (m.iE.length+1) c7)) (Ve+1) gc bad { m with iE:=m.iE++[v] } A c S A7 c7 S7:=by
 have a4:=(blt h.ly)
 have a1:(m.iE++[v]).length=m.iE.length+1:=gm;have a0:fG [gc] W7 (W7.setCell ⟨gc,4,I⟩ (J A7 (m.iE.length+1) c7)):=(fG.refl _ _).setCell (p:=⟨gc,4,I⟩) gm _
 have a3:gc∉S7:=fun hm=>by
  rcases hS gc hm with h1 | h1
  ·exact h.cs.2 h1
  ·omega
 have a5:=h.fH.size;have a2:=(hon.block gc a4 h.cs.2).trans h.ly;refine⟨?_,?_,?_,?_,⟨h.cs.1,a3⟩,⟨h.ok.len,by rw[a1];have:=h.ok.out;omega,h.ok.pc,h.ok.sp,h.ok.fp,h.ok.st,h.ok.va⟩,?_,h.lc,h.ls,?_,?_⟩
 ·rw[a1]
  exact ko (i:=4) a2 rfl
 ·exact(h.stack.gu hon (fun x hx=>h.lG x hx)).gu a0 (fun x hx hm=>h.cs.1 (by simp at hm;exact hm ▸ hx))
 ·rw[a1]
  exact hH.gu a0 (fun x hx hm=>a3 (by simp at hm;exact hm ▸ hx))
 ·intro x hx hm
  rcases hS x hm with h1 | h1
  ·exact h.lG x hx h1
  ·have:=h.stack.lt x hx
   omega
 ·exact a0.fH (hon.fH h.fH h.lo) (fun b hb=>by simp at hb;exact hb ▸ h.lc)
 ·intro b hb
  rcases hS b hb with h1 | h1
  ·exact h.lo b h1
  ·omega
 ·intro p hp
  obtain⟨h1,h2,h4,h5⟩:=h.kb p hp;have h6:=(hon.block p.1 (blt h1) h5).trans h1;refine⟨(a0.block p.1 (blt h6) (by simpa using h2)).trans h6,h2,h4,fun hm=>?_⟩;rcases hS p.1 hm with h7 | h7
  ·exact h5 h7
  ·have:=(blt h1)
   omega
theorem je.grow (h:je B Y W Ve gc bad m):fy Y W:=by
 obtain⟨A,c,S,Ao,co,So,h⟩:=h;exact h.fH
theorem je.up (h:je B Y W Ve gc bad m):je B Y W (Ve+1) gc bad m:=by
 obtain⟨A,c,S,Ao,co,So,h⟩:=h;exact⟨A,c,S,Ao,co,So,h.ly,h.stack,h.out,h.lG,h.cs,⟨h.ok.len,by have:=h.ok.out;omega,h.ok.pc,h.ok.sp,h.ok.fp,h.ok.st,h.ok.va⟩,h.fH,h.lc,h.ls,h.lo,h.kb⟩
theorem jw.up {f:fF->N fF}{B:D (Nat × Obj)}{Y:V}{Ve gc:Nat}{bad:Bool}{m:fF}{r:Z9}{W':V}(h:jw f B Y Ve gc bad m r W'):jw f B Y (Ve+1) gc bad m r W':=by
 obtain⟨h1,b,m',h2,h3⟩:=h;exact⟨h1,b,m',h2.up,h3⟩
def Md (code arg:Int):Prop:=(code=1∨code=2∨code=3∨code=4∨code=10∨code=11->-32768<=arg/\arg<=32767)/\(code=16->0<=arg/\arg<=65535)/\(code=12∨code=13∨code=14∨code=15->0<=arg/\arg<=255)
theorem pC (h:je B Y W Ve gc M m)(cs ct:Array Value):∃(gs:Nat)(BB:D (Nat × Obj))(W1:V),W.heap.size=gs/\(W.alloc (U cs 28)).alloc (U ct 142)=W1/\Hid (je BB Y W1 Ve gc M m)/\Hid (∀ p∈B,p∈BB)/\(gs+1,U ct 142 (0,0))∈BB/\(gs,U cs 28 (0,0))∈BB:=by
 have h2:=(h.lu (cs:=cs) (t:=28)).lu (cs:=ct) (t:=142);rw[VH] at h2;exact⟨_,_,_,rfl,rfl,fk h2,fk fun p hp=>WH _ (WH _ hp),WW,WH _ WW⟩
theorem je.pf {BB:D (Nat × Obj)} {gs:Nat} {a b d e f:Value} (h:je BB Y W Ve gc bad m)(ho:(gs+1,U #[a,b] 142 (0,0))∈BB)(hs:(gs,U #[d,e,f] 28 (0,0))∈BB):∃ A c Ao co,
  Vg W ⟨gc,0,I⟩=F (C Z m.Pc)/\Vg W ⟨gc,1,I⟩=F (C Z m.Sp)/\Vg W ⟨gc,2,I⟩=F (C Z m.Fp)/\Vg W ⟨gc,3,I⟩=F (J A m.fK.length c)/\Vg W ⟨gc,4,I⟩=F (J Ao m.iE.length co)/\Vg W ⟨gc,5,I⟩=F (C Z m.fY)/\Vg W ⟨gc,6,I⟩=F (C Z m.Value)/\Vg W ⟨gc,7,I⟩=F (X bad)/\(∀ j,VE W ⟨gc,j,I⟩=M)/\gc<W.heap.size/\p8 Ve m/\
  Vg W ⟨gs+1,0,I⟩=F a/\Vg W ⟨gs+1,1,I⟩=F b/\VE W ⟨gs+1,0,I⟩=M/\VE W ⟨gs+1,1,I⟩=M/\gs+1<W.heap.size/\
  Vg W ⟨gs,0,I⟩=F d/\Vg W ⟨gs,1,I⟩=F e/\Vg W ⟨gs,2,I⟩=F f/\(∀ j,VE W ⟨gs,j,I⟩=M)/\gs<W.heap.size:=by
 obtain⟨A,c,Ao,co,z0,z1,z2,z3,z4,z5,z6,z7,zf,zl,hk⟩:=h.cells;obtain⟨p0,p1,a0,a1,pl⟩:=mI (h.kept ho);exact⟨A,c,Ao,co,z0,z1,z2,z3,z4,z5,z6,z7,zf,zl,hk,p0,p1,a0,a1,pl,kL (h.kept hs)⟩
theorem rp {q g:Prop} (hq:q)(f:g:=by
 obtain⟨gs,BB,W1,a7,a6,H9,HS,a8,a9⟩:=id kc;obtain⟨a5,a1⟩:∃ v,m.Sp=v:=⟨_,rfl⟩
 have aa:Xr (m.Pc+(n:Int))=m.Pc+(n:Int):=uq fh fh;have a0:fQ (m.Pc+(n:Int)):=⟨fh,fh⟩
 go_enter func85,ntmps85;go_upto_region 1 with(fail);clear a6 a7;obtain⟨A,c,Ao,co,z0,z1,z2,z3,z4,z5,z6,z7,zf,zl,hk,p0,p1,ab,ac,pl,q0,q1,q2,qf,ql⟩:=H9.out.pf a8 a9;go_upto_region 3 with(fail);have a2:=H9.out.num (i:=0) (v:=C Z (m.Pc+(n:Int))) (bad':=M) (m':={ m with Pc:=m.Pc+(n:Int) }) rfl rfl ⟨hk.len,hk.out,a0,hk.sp,hk.fp,hk.st,hk.va⟩ (fun _ _=>rfl);have a3 : -4611686018427387904<=({ m with Pc:=m.Pc+(n:Int) }:fF).Pc/\({ m with Pc:=m.Pc+(n:Int) }:fF).Pc<=4611686018427387904:=⟨by show _<=m.Pc+(n:Int);omega,by show m.Pc+(n:Int)<=_;omega⟩
 have a4:({ m with Pc:=m.Pc+(n:Int) }:fF).Sp=a5:=a1;rw[hm0] at a2 a3 a4;generalize W1.setCell _ _=w0 at a2 |-;have HB:=fk a3;have ad:=fk a4;clear a1 aa a0 a3 a4 H9 hk;have H0:=fk a2;clear a2;clear z0 z1 z2 z3 z4 z5 z6 z7 zf zl p0 p1 ab ac pl q0 q1 q2 qf ql;clear W1 A c Ao co;rename_i Q0 K0 hK0;revert gs BB a5 Q0 K0 w0 HB
 exact ?zk):g:=f
theorem zsZ (h:je B Y W Ve gc M m)(hm0:({ m with Pc:=m.Pc+(n:Int) }:fF)=m0)(hp : -1152921504606846976<=m.Pc/\m.Pc<=1152921504606846976)(hn:n<=5)(ha:fQ arg) :
  VK prog 85 #[.agg #[J A0 n0 c0,J A1 n1 c1,J A2 es.length c2],.pointer (F ⟨gc,0,I⟩),.agg #[C Z 0,C Z arg],C Z n] W (jw (fun m=>zR es m 0 arg) B Y Ve gc M m0):=by
 have kc:=pC h #[J A0 n0 c0,J A1 n1 c1,J A2 es.length c2] #[C Z 0,C Z arg];refine rp ?zk;intro gs BB HS a2 a3 a8 Q0 K0 a5 w0 HB a4 H0;clear h kc hp hn;obtain⟨A,c,Ao,co,z0,z1,z2,z3,z4,z5,z6,z7,zf,zl,hk,p0,p1,a6,a7,pl,q0,q1,q2,qf,ql⟩:=H0.out.pf a2 a3;go_wp2_with(go_at_call 136;refine(zeU H0.out ha).mono ?_;rintro e w1 ⟨rfl,b1,m1,a0,a1⟩);exact Wp (v:=.tuple #[]) (by simp[VF,results85,go_sem]) rfl ⟨rfl,_,_,(a0).drop HS.out,a1⟩
theorem zs0 (h:je B Y W Ve gc M m)(hm0:({ m with Pc:=m.Pc+(n:Int) }:fF)=m0)(hp : -1152921504606846976<=m.Pc/\m.Pc<=1152921504606846976)(hn:n<=5)(ha : -32768<=arg/\arg<=32767) :
  VK prog 85 #[.agg #[J A0 n0 c0,J A1 n1 c1,J A2 es.length c2],.pointer (F ⟨gc,0,I⟩),.agg #[C Z 1,C Z arg],C Z n] W (jw (fun m=>zR es m 1 arg) B Y Ve gc M m0):=by
 have kc:=pC h #[J A0 n0 c0,J A1 n1 c1,J A2 es.length c2] #[C Z 1,C Z arg];refine rp ?zk;intro gs BB HS a2 a8 ag Q0 K0 ad w0 HB ac H0;clear h kc hp hn;obtain⟨A,c,Ao,co,z0,z1,z2,z3,z4,z5,z6,z7,zf,zl,hk,p0,p1,ae,af,pl,q0,q1,q2,qf,ql⟩:=H0.out.pf a2 a8;go_upto_region 10 with(fail);refine lO (fun w'=>Vg w' ⟨gc,2,I⟩=F (C Z m0.Fp)/\Vg w' ⟨gs+1,1,I⟩=F (C Z arg)) 11 gU (Vm (zc z2) (zc p1)) (fun hH=>?_);have hX:=H0.out.fH ((fy.refl w0).drew);generalize w0.drew=wx at hX hH |-;have HX:=fk hX;clear hX;obtain⟨a1,a4⟩:=hH;have hH:=Vm a1 a4;refine .tq 0 [11] hH ?_;refine .tq 1 [10,11] hH ?_;refine .tq 2 [3,4,5,6,9,10,11] hH ?_;refine .tq 3 [4,5,6,9,10,11] hH ?_;refine .tq 4 [5,6,9,10,11] hH ?_;refine .tq 5 [6,9,10,11] hH ?_;refine .tq 6 [9,10,11] hH ?_;refine .tq 7 [8,9,10,11] hH ?_;refine .tq 8 [9,10,11] hH ?_;refine fL.iQ (i:=9) gU rfl (fun K hK=>?_);go_simp;go_at_call 137;refine(Lo m0.Fp arg wx ha).mono ?_;rintro e w1 ⟨rfl,rfl⟩;refine hK.out _ _ hH ?_;clear hK
 try simp only[lay]
 refine fL.iQ (i:=10) gU rfl (fun K hK=>?_);go_simp;go_at_call 86;refine(zqc HX.out).mono ?_;rintro e w2 ⟨⟨v2,a9,rfl,a0,a6⟩,a5⟩;have aa:=a5 2 _ fh fh a1;have ab:=(mI (a0.kept a2)).2.1;refine hK.out _ _ (Vm aa ab) ?_;clear hK
 try simp only[lay]
 refine fL.last gU rfl gU (fun K hK=>?_);go_simp;go_at_call 136;refine(zeU a0 a9).mono ?_;rintro e w3 ⟨rfl,b3,m3,a3,a7⟩;refine hK.out _ _ ?_;clear hK
 try simp only[lay]
 go_wp2_with(fail);exact Wp (v:=.tuple #[]) (by simp[VF,results85,go_sem]) rfl ⟨rfl,_,_,(a3).drop HS.out,by rw[KR a6 a7];show (mW m0 _).bind _=_;rw[Sk ha];rfl⟩
theorem zs2 (h:je B Y W Ve gc M m)(hm0:({ m with Pc:=m.Pc+(n:Int) }:fF)=m0)(hp : -1152921504606846976<=m.Pc/\m.Pc<=1152921504606846976)(hn:n<=5)(ha : -32768<=arg/\arg<=32767) :
  VK prog 85 #[.agg #[J A0 n0 c0,J A1 n1 c1,J A2 es.length c2],.pointer (F ⟨gc,0,I⟩),.agg #[C Z 3,C Z arg],C Z n] W (jw (fun m=>zR es m 3 arg) B Y Ve gc M m0):=by
 have kc:=pC h #[J A0 n0 c0,J A1 n1 c1,J A2 es.length c2] #[C Z 3,C Z arg];refine rp ?zk;intro gs BB HS a6 a7 ac Q0 K0 a9 w0 HB a0 H0;clear h kc hp hn;obtain⟨A,c,Ao,co,z0,z1,z2,z3,z4,z5,z6,z7,zf,zl,hk,p0,p1,aa,ab,pl,q0,q1,q2,qf,ql⟩:=H0.out.pf a6 a7;have a1:=hk.sp;rw[a0.out] at a1;go_wp2_with(first | (go_at_call 86;refine(LS H0.out).mono ?_;rintro e w2 ⟨v2,a8,rfl,a2,a4⟩) | (go_at_call 136;refine(zeU a2 a8).mono ?_;rintro e w3 ⟨rfl,b3,m3,a3,a5⟩));exact Wp (v:=.tuple #[]) (by simp[VF,results85,go_sem]) rfl ⟨rfl,_,_,(a3).drop HS.out,by rw[KR a4 a5];show (mW m0 _).bind _=(mW m0 (m0.Sp+arg)).bind _;rw[Sm a1 ha,a0.out]⟩
theorem zs1 (h:je B Y W Ve gc M m)(hm0:({ m with Pc:=m.Pc+(n:Int) }:fF)=m0)(hp : -1152921504606846976<=m.Pc/\m.Pc<=1152921504606846976)(hn:n<=5)(ha : -32768<=arg/\arg<=32767) :
  VK prog 85 #[.agg #[J A0 n0 c0,J A1 n1 c1,J A2 es.length c2],.pointer (F ⟨gc,0,I⟩),.agg #[C Z 2,C Z arg],C Z n] W (jw (fun m=>zR es m 2 arg) B Y Ve gc M m0):=by
 have kc:=pC h #[J A0 n0 c0,J A1 n1 c1,J A2 es.length c2] #[C Z 2,C Z arg];refine rp ?zk;intro gs BB HS a2 a8 ag Q0 K0 ad w0 HB ac H0;clear h kc hp hn;obtain⟨A,c,Ao,co,z0,z1,z2,z3,z4,z5,z6,z7,zf,zl,hk,p0,p1,ae,af,pl,q0,q1,q2,qf,ql⟩:=H0.out.pf a2 a8;go_upto_region 14 with(fail);refine lO (fun w'=>Vg w' ⟨gc,2,I⟩=F (C Z m0.Fp)/\Vg w' ⟨gs+1,1,I⟩=F (C Z arg)) 11 gU (Vm (zc z2) (zc p1)) (fun hH=>?_);have hX:=H0.out.fH ((fy.refl w0).drew);generalize w0.drew=wx at hX hH |-;have HX:=fk hX;clear hX;obtain⟨a1,a4⟩:=hH;have hH:=Vm a1 a4;refine .tq 0 [11] hH ?_;refine .tq 1 [2,3,4,5,8,10,11] hH ?_;refine .tq 2 [3,4,5,8,10,11] hH ?_;refine .tq 3 [4,5,8,10,11] hH ?_;refine .tq 4 [5,8,10,11] hH ?_;refine .tq 5 [8,10,11] hH ?_;refine .tq 6 [7,8,10,11] hH ?_;refine .tq 7 [8,10,11] hH ?_;refine .tq 9 [10,11] hH ?_;refine fL.iQ (i:=8) gU rfl (fun K hK=>?_);go_simp;go_at_call 137;refine(Lo m0.Fp arg wx ha).mono ?_;rintro e w1 ⟨rfl,rfl⟩;refine hK.out _ _ hH ?_;clear hK
 try simp only[lay]
 refine fL.iQ (i:=10) gU rfl (fun K hK=>?_);go_simp;go_at_call 139;refine(zpO HX.out).mono ?_;rintro e w2 ⟨⟨v1,b1,m1,a9,rfl,a0,a6⟩,a5⟩;have aa:=a5 2 _ fh fh a1;have ab:=(mI (a0.kept a2)).2.1;refine hK.out _ _ (Vm aa ab) ?_;clear hK
 try simp only[lay]
 refine fL.last gU rfl gU (fun K hK=>?_);go_simp;go_at_call 138;refine(zy6 a0 a9).mono ?_;rintro e w3 ⟨rfl,b3,m3,a3,a7⟩;refine hK.out _ _ ?_;clear hK
 try simp only[lay]
 go_wp2_with(fail);exact Wp (v:=.tuple #[]) (by simp[VF,results85,go_sem]) rfl ⟨rfl,_,_,(a3).drop HS.out,by rw[a7,<-td (K:=fun p=>nI p.1 (tE m0.Fp arg) p.2) a6];show (iR m0).bind _=(iR m0).bind _;simp only[P9 ha]⟩
theorem zs3 (h:je B Y W Ve gc M m)(hm0:({ m with Pc:=m.Pc+(n:Int) }:fF)=m0)(hp : -1152921504606846976<=m.Pc/\m.Pc<=1152921504606846976)(hn:n<=5)(ha : -32768<=arg/\arg<=32767) :
  VK prog 85 #[.agg #[J A0 n0 c0,J A1 n1 c1,J A2 es.length c2],.pointer (F ⟨gc,0,I⟩),.agg #[C Z 4,C Z arg],C Z n] W (jw (fun m=>zR es m 4 arg) B Y Ve gc M m0):=by
 have kc:=pC h #[J A0 n0 c0,J A1 n1 c1,J A2 es.length c2] #[C Z 4,C Z arg];refine rp ?zk;intro gs BB HS a2 a7 aa Q0 K0 ab w0 HB a0 H0;clear h kc hp hn;obtain⟨A,c,Ao,co,z0,z1,z2,z3,z4,z5,z6,z7,zf,zl,hk,p0,p1,ad,ae,pl,q0,q1,q2,qf,ql⟩:=H0.out.pf a2 a7;have a3:=hk.sp;rw[a0.out] at a3;go_upto_region 16 with(fail);refine lO (fun w'=>Vg w' ⟨gs+1,1,I⟩=F (C Z arg)) 7 gU (zc p1) (fun hH=>?_);have hX:=H0.out.fH ((fy.refl w0).drew);generalize w0.drew=wx at hX hH |-;have HX:=fk hX;clear hX;refine .tq 0 [7] hH ?_;refine .tq 1 [4,7] hH ?_;refine .tq 2 [3,4,7] hH ?_;refine .tq 3 [4,7] hH ?_;refine .tq 4 [7] hH ?_;refine .tq 5 [6,7] hH ?_;refine fL.iQ (i:=6) gU rfl (fun K hK=>?_);go_simp;go_at_call 139;refine(zpO HX.out).mono ?_;rintro e w2 ⟨⟨v1,b1,m1,a8,rfl,a1,a5⟩,ac⟩;have a9:=(mI (a1.kept a2)).2.1;refine hK.out _ _ a9 ?_;clear hK
 try simp only[lay]
 refine fL.last gU rfl gU (fun K hK=>?_);go_simp;go_at_call 138;refine(zy6 a1 a8).mono ?_;rintro e w3 ⟨rfl,b3,m3,a4,a6⟩;refine hK.out _ _ ?_;clear hK
 try simp only[lay]
 go_wp2_with(fail);exact Wp (v:=.tuple #[]) (by simp[VF,results85,go_sem]) rfl ⟨rfl,_,_,(a4).drop HS.out,by rw[a6,IntWalk.i64_left,<-td (K:=fun p=>nI p.1 (Xr (aa+arg)) p.2) a5];show (iR m0).bind _=(iR m0).bind fun p=>nI p.1 (m0.Sp+arg) p.2;simp only[Qa a3 ha,a0.out]⟩
theorem tX {g:Prop} (f:g:=by
  refine rp ?zk
  intro gs BB HS hop hsp spv Q0 K0 hK0 w0 HB HSP H0
  clear h kc hp hn
  obtain⟨A,c,Ao,co,z0,z1,z2,z3,z4,z5,z6,z7,zf,zl,hk,p0,p1,pf0,pf1,pl,q0,q1,q2,qf,ql⟩:=H0.out.pf hop hsp
  go_upto_region 5 with(go_at_call 139;refine(ve H0.out).mono ?_;rintro e w1 ⟨v1,b1,m1,hv1,rfl,hC1,ho1⟩)
  have H1:=fk hC1
  clear hC1
  clear z0 z1 z2 z3 z4 z5 z6 z7 zf zl p0 p1 pf0 pf1 pl q0 q1 q2 qf ql
  obtain⟨A,c,Ao,co,z0,z1,z2,z3,z4,z5,z6,z7,zf,zl,hk,p0,p1,pf0,pf1,pl,q0,q1,q2,qf,ql⟩:=H1.out.pf hop hsp
  go_upto_region 6 with(go_at_call 139;refine(ve H1.out).mono ?_;rintro e w2 ⟨v2,b2,m2,hv2,rfl,hC2,ho2⟩)
  have H2:=fk hC2
  clear hC2
  clear z0 z1 z2 z3 z4 z5 z6 z7 zf zl p0 p1 pf0 pf1 pl q0 q1 q2 qf ql
  obtain⟨A,c,Ao,co,z0,z1,z2,z3,z4,z5,z6,z7,zf,zl,hk,p0,p1,pf0,pf1,pl,q0,q1,q2,qf,ql⟩:=H2.out.pf hop hsp
  go_wp2_with(first | (go_at_call 142;refine(zgE (k:=_) (a:=v2) (b:=v1) fh hv2 hv1).mono ?_;rintro e w3 ⟨rfl,rfl⟩) | (go_at_call 136;refine(zeU H2.out (Mx _ v2 v1)).mono ?_;rintro e w4 ⟨rfl,b4,m4,hC4,ho4⟩))
  exact Wp (v:=.tuple #[]) (by simp[VF,results85,go_sem]) rfl ⟨rfl,_,_,(hC4).drop HS.out,by rw[O4 fh,td (K:=fun p=>(iR p.1).bind fun q=>jm q.1 (kS _ q.2 p.2)) ho1,td (K:=fun q=>jm q.1 (kS _ q.2 v1)) ho2];exact ho4⟩):g:=f
theorem zs4 (h:je B Y W Ve gc M m)(hm0:({ m with Pc:=m.Pc+(n:Int) }:fF)=m0)(hp : -1152921504606846976<=m.Pc/\m.Pc<=1152921504606846976)(hn:n<=5) :
  VK prog 85 #[.agg #[J A0 n0 c0,J A1 n1 c1,J A2 es.length c2],.pointer (F ⟨gc,0,I⟩),.agg #[C Z 5,C Z arg],C Z n] W (jw (fun m=>zR es m 5 arg) B Y Ve gc M m0):=by
 have kc:=pC h #[J A0 n0 c0,J A1 n1 c1,J A2 es.length c2] #[C Z 5,C Z arg];exact tX
theorem zs5 (h:je B Y W Ve gc M m)(hm0:({ m with Pc:=m.Pc+(n:Int) }:fF)=m0)(hp : -1152921504606846976<=m.Pc/\m.Pc<=1152921504606846976)(hn:n<=5) :
  VK prog 85 #[.agg #[J A0 n0 c0,J A1 n1 c1,J A2 es.length c2],.pointer (F ⟨gc,0,I⟩),.agg #[C Z 6,C Z arg],C Z n] W (jw (fun m=>zR es m 6 arg) B Y Ve gc M m0):=by
 have kc:=pC h #[J A0 n0 c0,J A1 n1 c1,J A2 es.length c2] #[C Z 6,C Z arg];exact tX
theorem zs6 (h:je B Y W Ve gc M m)(hm0:({ m with Pc:=m.Pc+(n:Int) }:fF)=m0)(hp : -1152921504606846976<=m.Pc/\m.Pc<=1152921504606846976)(hn:n<=5) :
  VK prog 85 #[.agg #[J A0 n0 c0,J A1 n1 c1,J A2 es.length c2],.pointer (F ⟨gc,0,I⟩),.agg #[C Z 7,C Z arg],C Z n] W (jw (fun m=>zR es m 7 arg) B Y Ve gc M m0):=by
 have kc:=pC h #[J A0 n0 c0,J A1 n1 c1,J A2 es.length c2] #[C Z 7,C Z arg];exact tX
theorem zs7 (h:je B Y W Ve gc M m)(hm0:({ m with Pc:=m.Pc+(n:Int) }:fF)=m0)(hp : -1152921504606846976<=m.Pc/\m.Pc<=1152921504606846976)(hn:n<=5) :
  VK prog 85 #[.agg #[J A0 n0 c0,J A1 n1 c1,J A2 es.length c2],.pointer (F ⟨gc,0,I⟩),.agg #[C Z 8,C Z arg],C Z n] W (jw (fun m=>zR es m 8 arg) B Y Ve gc M m0):=by
 have kc:=pC h #[J A0 n0 c0,J A1 n1 c1,J A2 es.length c2] #[C Z 8,C Z arg];exact tX
theorem zs8 (h:je B Y W Ve gc M m)(hm0:({ m with Pc:=m.Pc+(n:Int) }:fF)=m0)(hp : -1152921504606846976<=m.Pc/\m.Pc<=1152921504606846976)(hn:n<=5) :
  VK prog 85 #[.agg #[J A0 n0 c0,J A1 n1 c1,J A2 es.length c2],.pointer (F ⟨gc,0,I⟩),.agg #[C Z 9,C Z arg],C Z n] W (jw (fun m=>zR es m 9 arg) B Y Ve gc M m0):=by
 have kc:=pC h #[J A0 n0 c0,J A1 n1 c1,J A2 es.length c2] #[C Z 9,C Z arg];exact tX
theorem zrn (h:je B Y W Ve gc M m)(hm0:({ m with Pc:=m.Pc+(n:Int) }:fF)=m0)(hp : -1152921504606846976<=m.Pc/\m.Pc<=1152921504606846976)(hn:n<=5)(ha : -32768<=arg/\arg<=32767) :
  VK prog 85 #[.agg #[J A0 n0 c0,J A1 n1 c1,J A2 es.length c2],.pointer (F ⟨gc,0,I⟩),.agg #[C Z 10,C Z arg],C Z n] W (jw (fun m=>zR es m 10 arg) B Y Ve gc M m0):=by
 have kc:=pC h #[J A0 n0 c0,J A1 n1 c1,J A2 es.length c2] #[C Z 10,C Z arg];refine rp ?zk;intro gs BB HS a0 a1 a9 Q0 K0 a6 w0 HB a5 H0;clear h kc hp hn;obtain⟨A,c,Ao,co,z0,z1,z2,z3,z4,z5,z6,z7,zf,zl,hk,p0,p1,a2,a3,pl,q0,q1,q2,qf,ql⟩:=H0.out.pf a0 a1;go_upto_region 18 with(fail);refine CC 12 gU gU (fun wx hgx=>?_);have HX:=fk (H0.out.fH hgx);clear z0 z1 z2 z3 z4 z5 z6 z7 zf zl p0 p1 a2 a3 pl q0 q1 q2 qf ql;obtain⟨A,c,Ao,co,z0,z1,z2,z3,z4,z5,z6,z7,zf,zl,hk,p0,p1,a2,a3,pl,q0,q1,q2,qf,ql⟩:=HX.out.pf a0 a1;simp only[Wz,Xk,WR,WQ]
 repeat still_step
 refine XZ ?_;have a7:=HB.out;have a8:Xr (m0.Pc+arg)=m0.Pc+arg:=uq fh fh;go_wp2_with(fail);have a4:=HX.out.num (i:=0) (v:=C Z (m0.Pc+arg)) (bad':=M) (m':={ m0 with Pc:=m0.Pc+arg }) rfl rfl ⟨hk.len,hk.out,⟨by show _<=m0.Pc+arg;omega,by show m0.Pc+arg<=_;omega⟩,hk.sp,hk.fp,hk.st,hk.va⟩ (fun _ _=>rfl);exact Wp (v:=.tuple #[]) (by simp[VF,results85,go_sem]) rfl ⟨rfl,_,_,(a4.fH gG).drop HS.out,rfl⟩
theorem zro (h:je B Y W Ve gc M m)(hm0:({ m with Pc:=m.Pc+(n:Int) }:fF)=m0)(hp : -1152921504606846976<=m.Pc/\m.Pc<=1152921504606846976)(hn:n<=5)(ha : -32768<=arg/\arg<=32767) :
  VK prog 85 #[.agg #[J A0 n0 c0,J A1 n1 c1,J A2 es.length c2],.pointer (F ⟨gc,0,I⟩),.agg #[C Z 11,C Z arg],C Z n] W (jw (fun m=>zR es m 11 arg) B Y Ve gc M m0):=by
 have kc:=pC h #[J A0 n0 c0,J A1 n1 c1,J A2 es.length c2] #[C Z 11,C Z arg];refine rp ?zk;intro gs BB HS a2 a3 aa Q0 K0 a8 w0 HB a7 H0;clear h kc hp hn;obtain⟨A,c,Ao,co,z0,z1,z2,z3,z4,z5,z6,z7,zf,zl,hk,p0,p1,a0,a1,pl,q0,q1,q2,qf,ql⟩:=H0.out.pf a2 a3;go_upto_if 116 with(go_at_call 139;refine(ve H0.out).mono ?_;rintro e w1 ⟨v1,b1,m1,a9,rfl,a4,a5⟩)
 have H1:=fk a4;clear a4;clear z0 z1 z2 z3 z4 z5 z6 z7 zf zl p0 p1 a0 a1 pl q0 q1 q2 qf ql;obtain⟨A,c,Ao,co,z0,z1,z2,z3,z4,z5,z6,z7,zf,zl,hk,p0,p1,a0,a1,pl,q0,q1,q2,qf,ql⟩:=H1.out.pf a2 a3;by_cases hz:v1=0
 ·subst hz
  go_upto_region 21 with(fail);refine CC 12 gU gU (fun wx hgx=>?_);have HX:=fk (H1.out.fH hgx);clear z0 z1 z2 z3 z4 z5 z6 z7 zf zl p0 p1 a0 a1 pl q0 q1 q2 qf ql;obtain⟨A,c,Ao,co,z0,z1,z2,z3,z4,z5,z6,z7,zf,zl,hk,p0,p1,a0,a1,pl,q0,q1,q2,qf,ql⟩:=HX.out.pf a2 a3;simp only[Wz,Xk,WR,WQ]
  repeat still_step
  refine XZ ?_;go_wp2_with(fail);have a6:=HX.out.num (i:=0) (v:=C Z (Xr (m1.Pc+arg))) (bad':=b1) (m':={ m1 with Pc:=Xr (m1.Pc+arg) }) rfl rfl ⟨hk.len,hk.out,SU (m1.Pc+arg),hk.sp,hk.fp,hk.st,hk.va⟩ (fun _ _=>rfl);exact Wp (v:=.tuple #[]) (by simp[VF,results85,go_sem]) rfl ⟨rfl,_,_,(a6.fH gG).drop HS.out,SV a5 HB.out ha⟩
 ·go_wp2_with(fail)
  exact Wp (v:=.tuple #[]) (by simp[VF,results85,go_sem]) rfl ⟨rfl,_,_,(H1.out).drop HS.out,UE a5 hz⟩
theorem zrp (h:je B Y W Ve gc M m)(hm0:({ m with Pc:=m.Pc+(n:Int) }:fF)=m0)(hp : -1152921504606846976<=m.Pc/\m.Pc<=1152921504606846976)(hn:n<=5)(he:(zv.sl 3).R Y Y.heap.size [J A2 es.length c2] es)(hes:es.length<=9223372036854775807)(ha:0<=arg/\arg<=255) :
  VK prog 85 #[.agg #[J A0 n0 c0,J A1 n1 c1,J A2 es.length c2],.pointer (F ⟨gc,0,I⟩),.agg #[C Z 12,C Z arg],C Z n] W (jw (fun m=>zR es m 12 arg) B Y Ve gc M m0):=by
 have kc:=pC h #[J A0 n0 c0,J A1 n1 c1,J A2 es.length c2] #[C Z 12,C Z arg];refine rp ?zk;intro gs BB HS a2 a3 ah Q0 K0 af w0 HB ae H0;clear h kc hp hn;obtain⟨A,c,Ao,co,z0,z1,z2,z3,z4,z5,z6,z7,zf,zl,hk,p0,p1,a4,a5,pl,q0,q1,q2,qf,ql⟩:=H0.out.pf a2 a3;have ab:=hk.pc;by_cases hlt:arg<(es.length:Int)
 ·have a9:¬ ((es.length:Int)<=arg):=fh
  go_upto_region 26 with(go_at_call 136;refine(zeU H0.out ab).mono ?_;rintro e w1 ⟨rfl,b1,m1,a1,aa⟩);have H1:=fk a1;clear a1;clear z0 z1 z2 z3 z4 z5 z6 z7 zf zl p0 p1 a4 a5 pl q0 q1 q2 qf ql;obtain⟨A,c,Ao,co,z0,z1,z2,z3,z4,z5,z6,z7,zf,zl,hk,p0,p1,a4,a5,pl,q0,q1,q2,qf,ql⟩:=H1.out.pf a2 a3;have a8:=Ty.up _ he H1.out.grow;obtain⟨a,rfl⟩:=VI ha.1;obtain⟨ge,ad,x,rfl,ac,ag,a6,a7⟩:=ma a8 (k:=a) fh;go_wp2_with(fail);have a0:=H1.out.num (i:=0) (v:=C Z x) (bad':=b1) (m':={ m1 with Pc:=x }) rfl rfl ⟨hk.len,hk.out,⟨a6,a7⟩,hk.sp,hk.fp,hk.st,hk.va⟩ (fun _ _=>rfl);exact Wp (v:=.tuple #[]) (by simp[VF,results85,go_sem]) rfl ⟨rfl,_,_,(a0).drop HS.out,by rw[LU,IJ (f:=fun m=>m.Pc) rfl (K:=fun m'=>(es[(a:Int).toNat]?).map fun e=>{ m' with Pc:=e }) aa,Vy,ac];cases b1 <;> rfl⟩
 ·have a9:(es.length:Int)<=arg:=fh
  go_wp2_with(fail);have a0:=H0.out.num (i:=7) (v:=X H) (bad':=H) (m':=m0) rfl rfl hk (fun _ _=>rfl);exact Vr (v:=.tuple #[]) (by simp[VF,results85,go_sem]) rfl ⟨rfl,_,_,(a0).drop HS.out,by rw[LU,XK fh];show I=(jm m0 m0.Pc).bind _;cases jm m0 m0.Pc <;> rfl⟩
theorem zrq (h:je B Y W Ve gc M m)(hm0:({ m with Pc:=m.Pc+(n:Int) }:fF)=m0)(hp : -1152921504606846976<=m.Pc/\m.Pc<=1152921504606846976)(hn:n<=5)(ha:0<=arg/\arg<=255) :
  VK prog 85 #[.agg #[J A0 n0 c0,J A1 n1 c1,J A2 es.length c2],.pointer (F ⟨gc,0,I⟩),.agg #[C Z 13,C Z arg],C Z n] W (jw (fun m=>zR es m 13 arg) B Y Ve gc M m0):=by
 have kc:=pC h #[J A0 n0 c0,J A1 n1 c1,J A2 es.length c2] #[C Z 13,C Z arg];refine rp ?zk;intro gs BB HS a3 a4 ac Q0 K0 ab w0 HB aa H0;clear h kc hp hn;obtain⟨A,c,Ao,co,z0,z1,z2,z3,z4,z5,z6,z7,zf,zl,hk,p0,p1,a0,a1,pl,q0,q1,q2,qf,ql⟩:=H0.out.pf a3 a4;have a7:=hk.fp;go_upto_region 29 with(go_at_call 136;refine(zeU H0.out a7).mono ?_;rintro e w1 ⟨rfl,b1,m1,a5,a8⟩);have H1:=fk a5;clear a5;clear z0 z1 z2 z3 z4 z5 z6 z7 zf zl p0 p1 a0 a1 pl q0 q1 q2 qf ql;obtain⟨A,c,Ao,co,z0,z1,z2,z3,z4,z5,z6,z7,zf,zl,hk,p0,p1,a0,a1,pl,q0,q1,q2,qf,ql⟩:=H1.out.pf a3 a4;go_upto_region 30 with(fail);have a2:=H1.out.num (i:=2) (v:=C Z m1.Sp) (bad':=b1) (m':={ m1 with Fp:=m1.Sp }) rfl rfl ⟨hk.len,hk.out,hk.pc,hk.sp,hk.sp,hk.st,hk.va⟩ (fun _ _=>rfl);generalize w1.setCell _ _=w2 at a2 |-;have H2:=fk a2;clear a2;clear z0 z1 z2 z3 z4 z5 z6 z7 zf zl p0 p1 a0 a1 pl q0 q1 q2 qf ql;obtain⟨A,c,Ao,co,z0,z1,z2,z3,z4,z5,z6,z7,zf,zl,hk,p0,p1,a0,a1,pl,q0,q1,q2,qf,ql⟩:=H2.out.pf a3 a4;go_wp2_with(go_at_call 140;refine(zup H2.out ha.1 fh).mono ?_;rintro e w3 ⟨rfl,b3,m3,a6,a9⟩);exact Wp (v:=.tuple #[]) (by simp[VF,results85,go_sem]) rfl ⟨rfl,_,_,(a6).drop HS.out,by rw[a9,UF,IJ (f:=fun m=>m.Fp) rfl (K:=fun m'=>qR arg.toNat { m' with Fp:=m'.Sp }) a8];cases b1 <;> rfl⟩
theorem zrs (h:je B Y W Ve gc M m)(hm0:({ m with Pc:=m.Pc+(n:Int) }:fF)=m0)(hp : -1152921504606846976<=m.Pc/\m.Pc<=1152921504606846976)(hn:n<=5)(ha:0<=arg/\arg<=255) :
  VK prog 85 #[.agg #[J A0 n0 c0,J A1 n1 c1,J A2 es.length c2],.pointer (F ⟨gc,0,I⟩),.agg #[C Z 15,C Z arg],C Z n] W (jw (fun m=>zR es m 15 arg) B Y Ve gc M m0):=by
 have kc:=pC h #[J A0 n0 c0,J A1 n1 c1,J A2 es.length c2] #[C Z 15,C Z arg];refine rp ?zk;intro gs BB HS a2 a3 a8 Q0 K0 a5 w0 HB a4 H0;clear h kc hp hn;obtain⟨A,c,Ao,co,z0,z1,z2,z3,z4,z5,z6,z7,zf,zl,hk,p0,p1,a6,a7,pl,q0,q1,q2,qf,ql⟩:=H0.out.pf a2 a3;go_wp2_with(go_at_call 140;refine(zup H0.out ha.1 fh).mono ?_;rintro e w1 ⟨rfl,b1,m1,a0,a1⟩);exact Wp (v:=.tuple #[]) (by simp[VF,results85,go_sem]) rfl ⟨rfl,_,_,(a0).drop HS.out,a1⟩
theorem zrr (h:je B Y W Ve gc M m)(hm0:({ m with Pc:=m.Pc+(n:Int) }:fF)=m0)(hp : -1152921504606846976<=m.Pc/\m.Pc<=1152921504606846976)(hn:n<=5)(ha:0<=arg/\arg<=255) :
  VK prog 85 #[.agg #[J A0 n0 c0,J A1 n1 c1,J A2 es.length c2],.pointer (F ⟨gc,0,I⟩),.agg #[C Z 14,C Z arg],C Z n] W (jw (fun m=>zR es m 14 arg) B Y Ve gc M m0):=by
 have kc:=pC h #[J A0 n0 c0,J A1 n1 c1,J A2 es.length c2] #[C Z 14,C Z arg];refine rp ?zk;intro gs BB HS a2 a3 ap Q0 K0 ao w0 HB an H0;clear h kc hp hn;obtain⟨A,c,Ao,co,z0,z1,z2,z3,z4,z5,z6,z7,zf,zl,hk,p0,p1,a0,a1,pl,q0,q1,q2,qf,ql⟩:=H0.out.pf a2 a3;go_upto_region 35 with(go_at_call 139;refine(ve H0.out).mono ?_;rintro e w1 ⟨v1,b1,m1,aj,rfl,a9,ad⟩);have H1:=fk a9;clear a9;clear z0 z1 z2 z3 z4 z5 z6 z7 zf zl p0 p1 a0 a1 pl q0 q1 q2 qf ql;obtain⟨A,c,Ao,co,z0,z1,z2,z3,z4,z5,z6,z7,zf,zl,hk,p0,p1,a0,a1,pl,q0,q1,q2,qf,ql⟩:=H1.out.pf a2 a3;obtain⟨am,a5⟩:∃ q,gE m1.Fp 0 1200=q:=⟨_,rfl⟩
 have a6:=fk a5;clear a5;cases am with
 | false=>
  go_wp2_with(go_at_call 43;refine(iU _ _ _ _).mono ?_;rw[a6.out];rintro e w9 ⟨rfl,rfl⟩);have a4:=H1.out.num (i:=7) (v:=X H) (bad':=H) (m':=m1) rfl rfl hk (fun _ _=>rfl);exact Vr (v:=.tuple #[]) (by simp[VF,results85,go_sem]) rfl ⟨rfl,_,_,(a4).drop HS.out,Ri ad a6.out⟩
 | true=>
 go_upto_region 37 with(go_at_call 43;refine(iU _ _ _ _).mono ?_;rw[a6.out];rintro e w9 ⟨rfl,rfl⟩);go_upto_region 38 with(fail);have a4:=H1.out.num (i:=1) (v:=C Z m1.Fp) (bad':=b1) (m':={ m1 with Sp:=m1.Fp }) rfl rfl ⟨hk.len,hk.out,hk.pc,hk.fp,hk.fp,hk.st,hk.va⟩ (fun _ _=>rfl);generalize w1.setCell _ _=w2 at a4 |-;have H2:=fk a4;clear a4;clear z0 z1 z2 z3 z4 z5 z6 z7 zf zl p0 p1 a0 a1 pl q0 q1 q2 qf ql;obtain⟨A,c,Ao,co,z0,z1,z2,z3,z4,z5,z6,z7,zf,zl,hk,p0,p1,a0,a1,pl,q0,q1,q2,qf,ql⟩:=H2.out.pf a2 a3;go_upto_region 39 with(go_at_call 139;refine(ve H2.out).mono ?_;rintro e w3 ⟨v3,b3,m3,ak,rfl,aa,af⟩;have H3:=fk aa;obtain⟨A,c,Ao,co,z0,z1,z2,z3,z4,z5,z6,z7,zf,zl,hk⟩:=aa.cells);have a7:=H3.out.num (i:=2) (v:=C Z v3) (bad':=b3) (m':={ m3 with Fp:=v3 }) rfl rfl ⟨hk.len,hk.out,hk.pc,hk.sp,ak,hk.st,hk.va⟩ (fun _ _=>rfl);generalize w3.setCell _ _=w4 at a7 |-;have H4:=fk a7;clear a7;clear z0 z1 z2 z3 z4 z5 z6 z7 zf zl p0 p1 a0 a1 pl q0 q1 q2 qf ql;obtain⟨A,c,Ao,co,z0,z1,z2,z3,z4,z5,z6,z7,zf,zl,hk,p0,p1,a0,a1,pl,q0,q1,q2,qf,ql⟩:=H4.out.pf a2 a3;go_upto_region 40 with(go_at_call 139;refine(ve H4.out).mono ?_;rintro e w5 ⟨v5,b5,m5,al,rfl,ab,ag⟩;have H5:=fk ab;obtain⟨A,c,Ao,co,z0,z1,z2,z3,z4,z5,z6,z7,zf,zl,hk⟩:=ab.cells);have a8:=H5.out.num (i:=0) (v:=C Z v5) (bad':=b5) (m':={ m5 with Pc:=v5 }) rfl rfl ⟨hk.len,hk.out,al,hk.sp,hk.fp,hk.st,hk.va⟩ (fun _ _=>rfl);generalize w5.setCell _ _=w6 at a8 |-;have H6:=fk a8;clear a8;clear z0 z1 z2 z3 z4 z5 z6 z7 zf zl p0 p1 a0 a1 pl q0 q1 q2 qf ql;obtain⟨A,c,Ao,co,z0,z1,z2,z3,z4,z5,z6,z7,zf,zl,hk,p0,p1,a0,a1,pl,q0,q1,q2,qf,ql⟩:=H6.out.pf a2 a3;go_upto_region 41 with(go_at_call 141;refine(zsz H6.out ha.1 fh).mono ?_;rintro e w7 ⟨rfl,b7,m7,ac,ah⟩);have H7:=fk ac;clear ac;clear z0 z1 z2 z3 z4 z5 z6 z7 zf zl p0 p1 a0 a1 pl q0 q1 q2 qf ql;obtain⟨A,c,Ao,co,z0,z1,z2,z3,z4,z5,z6,z7,zf,zl,hk,p0,p1,a0,a1,pl,q0,q1,q2,qf,ql⟩:=H7.out.pf a2 a3;go_wp2_with(go_at_call 136;refine(zeU H7.out aj).mono ?_;rintro e w8 ⟨rfl,b8,m8,ae,ai⟩);exact Wp (v:=.tuple #[]) (by simp[VF,results85,go_sem]) rfl ⟨rfl,_,_,(ae).drop HS.out,Rj ad af ag ah ai⟩
theorem zrt (h:je B Y W Ve gc M m)(hm0:({ m with Pc:=m.Pc+(n:Int) }:fF)=m0)(hp : -1152921504606846976<=m.Pc/\m.Pc<=1152921504606846976)(hn:n<=5)(ha:0<=arg/\arg<=65535) :
  VK prog 85 #[.agg #[J A0 n0 c0,J A1 n1 c1,J A2 es.length c2],.pointer (F ⟨gc,0,I⟩),.agg #[C Z 16,C Z arg],C Z n] W (jw (fun m=>zR es m 16 arg) B Y Ve gc M m0):=by
 have kc:=pC h #[J A0 n0 c0,J A1 n1 c1,J A2 es.length c2] #[C Z 16,C Z arg];refine rp ?zk;intro gs BB HS a2 a3 aj Q0 K0 ai w0 HB ah H0;clear h kc hp hn;obtain⟨A,c,Ao,co,z0,z1,z2,z3,z4,z5,z6,z7,zf,zl,hk,p0,p1,a0,a1,pl,q0,q1,q2,qf,ql⟩:=H0.out.pf a2 a3;obtain⟨a,rfl⟩:=VI ha.1;go_upto_region 44 with(go_at_call 139;refine(ve H0.out).mono ?_;rintro e w1 ⟨v1,b1,m1,af,rfl,a5,aa⟩);have H1:=fk a5;clear a5;clear z0 z1 z2 z3 z4 z5 z6 z7 zf zl p0 p1 a0 a1 pl q0 q1 q2 qf ql;obtain⟨A,c,Ao,co,z0,z1,z2,z3,z4,z5,z6,z7,zf,zl,hk,p0,p1,a0,a1,pl,q0,q1,q2,qf,ql⟩:=H1.out.pf a2 a3;go_upto_region 45 with(go_at_call 141;refine(zsz (n:=(a:Int) / 16) H1.out fh fh).mono ?_;rintro e w2 ⟨rfl,b2,m2,a6,ab⟩);have H2:=fk a6;clear a6;clear z0 z1 z2 z3 z4 z5 z6 z7 zf zl p0 p1 a0 a1 pl q0 q1 q2 qf ql;obtain⟨A,c,Ao,co,z0,z1,z2,z3,z4,z5,z6,z7,zf,zl,hk,p0,p1,a0,a1,pl,q0,q1,q2,qf,ql⟩:=H2.out.pf a2 a3;go_upto_region 46 with(go_at_call 139;refine(ve H2.out).mono ?_;rintro e w3 ⟨v3,b3,m3,ag,rfl,a7,ac⟩;have H3:=fk a7;obtain⟨A,c,Ao,co,z0,z1,z2,z3,z4,z5,z6,z7,zf,zl,hk⟩:=a7.cells);have a4:=H3.out.num (i:=0) (v:=C Z v3) (bad':=b3) (m':={ m3 with Pc:=v3 }) rfl rfl ⟨hk.len,hk.out,ag,hk.sp,hk.fp,hk.st,hk.va⟩ (fun _ _=>rfl);generalize w3.setCell _ _=w4 at a4 |-;have H4:=fk a4;clear a4;clear z0 z1 z2 z3 z4 z5 z6 z7 zf zl p0 p1 a0 a1 pl q0 q1 q2 qf ql;obtain⟨A,c,Ao,co,z0,z1,z2,z3,z4,z5,z6,z7,zf,zl,hk,p0,p1,a0,a1,pl,q0,q1,q2,qf,ql⟩:=H4.out.pf a2 a3;go_upto_region 47 with(go_at_call 141;refine(zsz (n:=(a:Int) % 16) H4.out fh fh).mono ?_;rintro e w5 ⟨rfl,b5,m5,a8,ad⟩);have H5:=fk a8;clear a8;clear z0 z1 z2 z3 z4 z5 z6 z7 zf zl p0 p1 a0 a1 pl q0 q1 q2 qf ql;obtain⟨A,c,Ao,co,z0,z1,z2,z3,z4,z5,z6,z7,zf,zl,hk,p0,p1,a0,a1,pl,q0,q1,q2,qf,ql⟩:=H5.out.pf a2 a3;go_wp2_with(go_at_call 136;refine(zeU H5.out af).mono ?_;rintro e w6 ⟨rfl,b6,m6,a9,ae⟩);exact Wp (v:=.tuple #[]) (by simp[VF,results85,go_sem]) rfl ⟨rfl,_,_,(a9).drop HS.out,Uj aa ab ac ad ae⟩
theorem zru (h:je B Y W Ve gc M m)(hm0:({ m with Pc:=m.Pc+(n:Int) }:fF)=m0)(hp : -1152921504606846976<=m.Pc/\m.Pc<=1152921504606846976)(hn:n<=5)(hN:Ve<=2000000000000) :
  VK prog 85 #[.agg #[J A0 n0 c0,J A1 n1 c1,J A2 es.length c2],.pointer (F ⟨gc,0,I⟩),.agg #[C Z 17,C Z arg],C Z n] W (jw (fun m=>zR es m 17 arg) B Y (Ve+1) gc M m0):=by
 have kc:=pC h #[J A0 n0 c0,J A1 n1 c1,J A2 es.length c2] #[C Z 17,C Z arg];refine rp ?zk;intro gs BB HS ai aj ax Q0 K0 av w0 HB ap H0;clear h kc hp hn;obtain⟨A,c,Ao,co,z0,z1,z2,z3,z4,z5,z6,z7,zf,zl,hk,p0,p1,al,am,pl,q0,q1,q2,qf,ql⟩:=H0.out.pf ai aj;have ag:=hk;go_upto_region 49 with(fail);have aw:m0.iE.length<=Ve:=ag.out;refine lO (fun w'=>Vg w' ⟨gc,4,I⟩=F (J Ao m0.iE.length co)) 13 gU (zc z4) (fun hH=>?_);have hX:=H0.out.fH ((fy.refl w0).drew);generalize w0.drew=wx at hX hH |-;have HX:=fk hX;clear hX;clear z0 z1 z2 z3 z4 z5 z6 z7 zf zl p0 p1 al am pl q0 q1 q2 qf ql;obtain⟨A,c,an,ar,z0,z1,z2,z3,_,z5,z6,z7,zf,zl,hk⟩:=HX.out.cells;have z4:=hH;refine .tq 0 [10,11,12,13] hH ?_;refine .tq 1 [2,3,4,5,9,10,11,12,13] hH ?_;refine .tq 2 [3,4,5,9,10,11,12,13] hH ?_;refine .tq 3 [4,5,9,10,11,12,13] hH ?_;refine .tq 4 [5,9,10,11,12,13] hH ?_;refine .tq 5 [9,10,11,12,13] hH ?_;refine .tq 6 [7,8,9,10,11,12,13] hH ?_;refine fL.iQ (i:=7) gU rfl (fun K hK=>?_);go_simp;go_at_call 139;refine(zpO HX.out).mono ?_;rintro e w2 ⟨⟨v1,b1,m1,aa,rfl,ac,ah⟩,a9⟩;have ab:=a9 4 _ fh fh z4;clear a9;refine hK.out _ _ ab ?_;clear hK
 try simp only[lay]
 refine fL.iQ (i:=8) gU rfl (fun K hK=>?_);go_simp;have a4:=ac.lu (cs:=#[C Z v1]) (t:=3);have a2:=zq ab (U #[C Z v1] 3);have en:=Vj w2 (U #[C Z v1] 3);refine hK.out _ _ a2 ?_;clear hK
 try simp only[lay]
 obtain⟨gn,af⟩:∃ g,w2.heap.size=g:=⟨_,rfl⟩
 rw[af] at a4 en |-;generalize w2.alloc _=w3 at a4 a2 en |-;obtain⟨A9,c9,S9,ao,au,aq,a0⟩:=a4;obtain⟨_,_,_,_,x4,_,_,_,_,_⟩:=vt a0.ly;have x4:=x4.symm.trans a2;injection x4 with x4
 injection x4 with e1 e2 e3
 subst e1 e3;have a5:m1.iE.length=m0.iE.length:=e2;have a8:=a0.out;rw[a5] at a8;refine fL.iQ (i:=9) gU rfl (fun K hK=>?_);refine sv (W1:=w3) (L:=m0.iE.length+1) rfl (.tmp 257) (.tmp 260) me zI a8 (ec:=[C Z v1]) (y:=v1) (B:=0) ⟨rfl,aa.1,aa.2⟩ rfl rfl rfl (by intro j u hu;have ak:=WC w3 gn j _ _ (0,0) en;rw[ak];simpa using hu) rfl fh fh ?_;intro A7 c7 W7 S7 a6 a7 ae;have a3:=(a6.cell (blt a0.ly) a0.cs.2 4).trans a2;have x7:=(a6.block gc (blt a0.ly) a0.cs.2).trans a0.ly;obtain⟨_,_,_,_,_,_,_,_,ay,az⟩:=vt x7;refine hK.out _ _ a3 ?_;clear hK
 try simp only[lay]
 refine .tq 10 [11,12,13] a3 ?_;refine .tq 11 [12,13] a3 ?_;refine .tq 12 [13] a3 ?_;refine fL.last gU rfl gU (fun K hK=>?_);go_simp;refine hK.out _ _ ?_;clear hK
 try simp only[lay]
 rw[<-a5] at a7;have a1:=a0.l5 a6 a7 ae;rw[a5] at a1;have ad:je BB Y (W7.setCell ⟨gc,4,I⟩ (J A7 (m0.iE.length+1) c7)) (Ve+1) gc b1 { m1 with iE:=m1.iE++[v1] }:=je.drop ⟨_,_,_,_,_,_,a1⟩ (fun p hp=>WH _ hp);go_wp2_with(fail);exact Wp (v:=.tuple #[]) (by simp[VF,results85,go_sem]) rfl ⟨rfl,_,_,(ad).drop HS.out,Uh ah⟩
theorem Rt (h:je B Y W Ve gc M m)(he:(zv.sl 3).R Y Y.heap.size [J A2 es.length c2] es)(hes:es.length<=9223372036854775807)(hN:Ve<=2000000000000)
  (hp : -1152921504606846976<=m.Pc/\m.Pc<=1152921504606846976) (hn:n<=5) (hc:0<=code/\code<=17) (hb:Md code arg) (hI:fQ arg) :
  VK prog 85 #[.agg #[J A0 n0 c0,J A1 n1 c1,J A2 es.length c2],.pointer (F ⟨gc,0,I⟩),.agg #[C Z code,C Z arg],C Z n] W (jw (fun m=>zR es m code arg) B Y (Ve+1) gc M { m with Pc:=m.Pc+(n:Int) }):=by
 have up:∀ r W',jw (fun m=>zR es m code arg) B Y Ve gc M { m with Pc:=m.Pc+(n:Int) } r W'->jw (fun m=>zR es m code arg) B Y (Ve+1) gc M { m with Pc:=m.Pc+(n:Int) } r W':=fun _ _ h=>h.up;have hk:code=0∨code=1∨code=2∨code=3∨code=4∨code=5∨code=6∨code=7∨code=8∨code=9∨code=10∨code=11∨code=12∨code=13∨code=14∨code=15∨code=16∨code=17:=fh;rcases hk with rfl | rfl | rfl | rfl | rfl | rfl | rfl | rfl | rfl | rfl | rfl | rfl | rfl | rfl | rfl | rfl | rfl | rfl
 ·exact(zsZ h rfl hp hn hI).mono up
 ·exact(zs0 h rfl hp hn (hb.1 fh)).mono up
 ·exact(zs1 h rfl hp hn (hb.1 fh)).mono up
 ·exact(zs2 h rfl hp hn (hb.1 fh)).mono up
 ·exact(zs3 h rfl hp hn (hb.1 fh)).mono up
 ·exact(zs4 h rfl hp hn).mono up
 ·exact(zs5 h rfl hp hn).mono up
 ·exact(zs6 h rfl hp hn).mono up
 ·exact(zs7 h rfl hp hn).mono up
 ·exact(zs8 h rfl hp hn).mono up
 ·exact(zrn h rfl hp hn (hb.1 fh)).mono up
 ·exact(zro h rfl hp hn (hb.1 fh)).mono up
 ·exact(zrp h rfl hp hn he hes (hb.2.2 fh)).mono up
 ·exact(zrq h rfl hp hn (hb.2.2 fh)).mono up
 ·exact(zrr h rfl hp hn (hb.2.2 fh)).mono up
 ·exact(zrs h rfl hp hn (hb.2.2 fh)).mono up
 ·exact(zrt h rfl hp hn (hb.2.1 rfl)).mono up
 ·exact zru h rfl hp hn hN
theorem p8.stop (h:p8 Ve m):p8 (Ve+1) { m with fY:=2 }:=
 have i2:fQ 2:=⟨gv,gv⟩
 ⟨h.len,by have:=h.out;show m.iE.length<=_;omega,h.pc,h.sp,h.fp,i2,h.va⟩
end Go.Proofs.YthgbglbaemelhaaGreat
