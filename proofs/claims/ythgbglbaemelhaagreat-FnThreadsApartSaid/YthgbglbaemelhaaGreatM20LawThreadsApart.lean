/-
  PART.
-/
import Derived.Test.YthgbglbaemelhaaGreatM10LawThreadsApart
set_option linter.unusedVariables false
set_option linter.unusedSimpArgs false
set_option maxRecDepth 100000
set_option maxHeartbeats 8000000
namespace Go.Proofs.YthgbglbaemelhaaGreat
open Value renaming slice->G,int->J,bool->H,string->V
open IntKind renaming i64->Z
open Option renaming none->C,some->D
open Obj renaming cells->F
open Bool renaming false->I,true->M
open Go renaming World->U,results->Rv,Calls->RD,Addr->RJ,TypeId->R5,madeCells->SM,yielded->Th,undef->Ug
open World renaming cell?->Rb,alloc->Su
open List renaming replicate->RN,length_nil->RR,nil_append->RY
open RowKit renaming intOf->RS
open Region renaming wanted->RV,ready->Sn,noSelect->TZ,Mode->Ub,free->Wu
open _root_.Nat renaming add_zero->Sr
open Tryz
open Go.RowKit
variable {A0 A1 A2:X RJ}{S:Q Nat}{Y a b w:U}{c0 c1 c2:Nat}{s:gk}{th:Int}{x:fv}
theorem zhJ (p0:fE x.Pc)(p1:fE x.Sp)(p2:fE x.Fp)(h3:(zr.sl 3).R w w.heap.size [G A0 x.pm.length c0] x.pm)(h4:(zr.sl 3).R w w.heap.size [G A1 x.If.length c1] x.If)(p5:fE x.rc)(p6:fE x.Value)(hs:jV x<=1099511627776) :
  RD prog 79 #[.agg #[J Z x.Pc,J Z x.Sp,J Z x.Fp,G A0 x.pm.length c0,G A1 x.If.length c1,J Z x.rc,J Z x.Value]] w (Cq x w):=by
 unfold jV at hs;go_enter func79,ntmps79
 go_wp2_with(first
  | (at_builtin;refine yU rfl (.tmp 3) (.tmp 5) lN zE (wj (fu.refl _) II) ((fu.refl _).alloc _) (Ty.up _ h3 gG) rfl rfl rfl (RF _).symm K9 K9 ?_;intro B0 d0 os d hF)
  | (at_builtin;refine yU rfl (.tmp 8) (.tmp 10) lN zE (wj (fu.refl _) II) ((fu.refl _).alloc _) (Ty.up _ h4 gG) rfl rfl rfl (RF _).symm K9 K9 ?_;intro B1 d1 a1 d2 a0))
 refine Rj (v:=.agg #[J Z x.Pc,J Z x.Sp,J Z x.Fp,G B0 x.pm.length d0,G B1 x.If.length d1,J Z x.rc,J Z x.Value]) (by simp[Rv,results79,go_sem]) rfl ⟨B0,d0,B1,d1,rfl,?_,gG⟩;exact yW p0 p1 p2 (hF.mW.same (by repeat (first | with_reducible exact gQ.refl _ _ _ | ((with_reducible refine gQ.base ?_ ?_) <;> (simp <;> omega)) | ((with_reducible refine gQ.more ?_ ?_ _ _);rotate_left;simp <;> omega) | ((with_reducible refine gQ.alloc ?_ ?_ _);rotate_left;simp <;> omega) | with_reducible apply gQ.drew | with_reducible apply gQ.drewN))) (a0.mW.same (by repeat (first | with_reducible exact gQ.refl _ _ _ | ((with_reducible refine gQ.base ?_ ?_) <;> (simp <;> omega)) | ((with_reducible refine gQ.more ?_ ?_ _ _);rotate_left;simp <;> omega) | ((with_reducible refine gQ.alloc ?_ ?_ _);rotate_left;simp <;> omega) | with_reducible apply gQ.drew | with_reducible apply gQ.drewN))) p5 p6 (by simp <;> omega) (by simp <;> omega) (by simp <;> omega)
theorem zdn (p0:fE x.Pc)(p1:fE x.Sp)(p2:fE x.Fp)(h3:(zr.sl 3).R w w.heap.size [G A0 x.pm.length c0] x.pm)(h4:(zr.sl 3).R w w.heap.size [G A1 x.If.length c1] x.If)(p5:fE x.rc)(p6:fE x.Value)(hs:jV x<=1099511627776) :
  RD prog 40 #[.agg #[J Z x.Pc,J Z x.Sp,J Z x.Fp,G A0 x.pm.length c0,G A1 x.If.length c1,J Z x.rc,J Z x.Value]] w (Cq x w):=by
 unfold jV at hs;go_enter func40,ntmps40
 go_wp2_with(first
  | (at_builtin;refine yU rfl (.tmp 3) (.tmp 5) lN zE (wj (fu.refl _) II) ((fu.refl _).alloc _) (Ty.up _ h3 gG) rfl rfl rfl (RF _).symm K9 K9 ?_;intro B0 d0 os d hF)
  | (at_builtin;refine yU rfl (.tmp 8) (.tmp 10) lN zE (wj (fu.refl _) II) ((fu.refl _).alloc _) (Ty.up _ h4 gG) rfl rfl rfl (RF _).symm K9 K9 ?_;intro B1 d1 a1 d2 a0))
 refine Rj (v:=.agg #[J Z x.Pc,J Z x.Sp,J Z x.Fp,G B0 x.pm.length d0,G B1 x.If.length d1,J Z x.rc,J Z x.Value]) (by simp[Rv,results40,go_sem]) rfl ⟨B0,d0,B1,d1,rfl,?_,gG⟩;exact yW p0 p1 p2 (hF.mW.same (by repeat (first | with_reducible exact gQ.refl _ _ _ | ((with_reducible refine gQ.base ?_ ?_) <;> (simp <;> omega)) | ((with_reducible refine gQ.more ?_ ?_ _ _);rotate_left;simp <;> omega) | ((with_reducible refine gQ.alloc ?_ ?_ _);rotate_left;simp <;> omega) | with_reducible apply gQ.drew | with_reducible apply gQ.drewN))) (a0.mW.same (by repeat (first | with_reducible exact gQ.refl _ _ _ | ((with_reducible refine gQ.base ?_ ?_) <;> (simp <;> omega)) | ((with_reducible refine gQ.more ?_ ?_ _ _);rotate_left;simp <;> omega) | ((with_reducible refine gQ.alloc ?_ ?_ _);rotate_left;simp <;> omega) | with_reducible apply gQ.drew | with_reducible apply gQ.drewN))) p5 p6 (by simp <;> omega) (by simp <;> omega) (by simp <;> omega)
section
variable {P:Program} {ops:Array Oper} {Q8:Exit->Act->U->Prop} {md:Ub} {S:U->Prop} {m:Nat}
theorem fA.st (i:Nat)(cs:Q Nat){oi:Oper}{v:Value}{f:Nat}{listed:Array Bool}{a:Act}{w:U}(hS:S w)(h:fA P md ops Q8 S m f (listed.setIfInBounds i M) (a.put oi.dst v) w)
  (hr:(Sn md ops listed).contains i=M:=by kernel_rfl) (hi:ops[i]?=D oi:=by exact rfl) (hsel:TZ ops=M:=by kernel_rfl) (hf:Wu md ops listed i=M:=by kernel_rfl) (hlk:rM md ops m i cs=M:=by kernel_rfl) (hne:cs.isEmpty=I:=by exact rfl) (hun:um listed cs=M:=by kernel_rfl)
  (hQ:∀ c a w,Q8 (.panic c) (a.put oi.dst v) w->Q8 (.panic c) a w:=by exact fun _ _ _ h=>h) (hw:RV oi (Th ops a.tmps)=M:=by first | rfl | kernel_rfl) (hy:∀ w,S w->(execOp a.eval oi).run P w=.ok (.value v) w:=by intro w hSw;(try dsimp only at hSw);go_simp;(try with_reducible rfl)):fA P md ops Q8 S m (f+1) listed a w:=
 fA.take hi hsel hf hr hlk hne hun hQ hS hw hy h
theorem fA.s1 (i:Nat){o:Oper}{f:Nat}{listed:Array Bool}{a:Act}{w:U}(h:∀ K:Act->U->Prop,Hid (∀ a w,S w->fA P md ops Q8 S m f (listed.setIfInBounds i M) a w->K a w)->if RV o (Th ops a.tmps)=M then Oper.wp P o a w K Q8 else K (a.put o.dst Ug) w)
  (hr:Sn md ops listed = [i]:=by kernel_rfl) (ho:ops[i]?=D o:=by exact rfl):fA P md ops Q8 S m (f+1) listed a w:=.gL hr ho h
theorem fA.s2 (i j:Nat){o o2:Oper}{f:Nat}{listed:Array Bool}{a:Act}{w:U}
  (h:∀ K:Act->U->Prop,Hid (∀ a w,S w->fA P md ops Q8 S m f (listed.setIfInBounds i M) a w->K a w)->if RV o (Th ops a.tmps)=M then Oper.wp P o a w K Q8 else K (a.put o.dst Ug) w)
  (h2:∀ K:Act->U->Prop,Hid (∀ a w,S w->fA P md ops Q8 S m f (listed.setIfInBounds j M) a w->K a w)->if RV o2 (Th ops a.tmps)=M then Oper.wp P o2 a w K Q8 else K (a.put o2.dst Ug) w)
  (hr:Sn md ops listed = [i,j]:=by kernel_rfl) (ho:ops[i]?=D o:=by exact rfl) (ho2:ops[j]?=D o2:=by exact rfl):fA P md ops Q8 S m (f+1) listed a w:=.py hr ho ho2 h h2
theorem fA.s3 (i j l:Nat){o o2 o3:Oper}{f:Nat}{listed:Array Bool}{a:Act}{w:U}
  (h:∀ K:Act->U->Prop,Hid (∀ a w,S w->fA P md ops Q8 S m f (listed.setIfInBounds i M) a w->K a w)->if RV o (Th ops a.tmps)=M then Oper.wp P o a w K Q8 else K (a.put o.dst Ug) w)
  (h2:∀ K:Act->U->Prop,Hid (∀ a w,S w->fA P md ops Q8 S m f (listed.setIfInBounds j M) a w->K a w)->if RV o2 (Th ops a.tmps)=M then Oper.wp P o2 a w K Q8 else K (a.put o2.dst Ug) w)
  (h3:∀ K:Act->U->Prop,Hid (∀ a w,S w->fA P md ops Q8 S m f (listed.setIfInBounds l M) a w->K a w)->if RV o3 (Th ops a.tmps)=M then Oper.wp P o3 a w K Q8 else K (a.put o3.dst Ug) w)
  (hr:Sn md ops listed = [i,j,l]:=by kernel_rfl) (ho:ops[i]?=D o:=by exact rfl) (ho2:ops[j]?=D o2:=by exact rfl) (ho3:ops[l]?=D o3:=by exact rfl):fA P md ops Q8 S m (f+1) listed a w:=.xQ hr ho ho2 ho3 h h2 h3
theorem fA.sl {o:Oper} {f:Nat} {listed:Array Bool} {a:Act} (h:∀ K:Act->U->Prop,Hid (∀ a w,Q8 .normal a w->K a w)->if RV o (Th ops a.tmps)=M then Oper.wp P o a w K Q8 else K (a.put o.dst Ug) w)
  (hr:Sn md ops listed = [m]:=by kernel_rfl) (ho:ops[m]?=D o:=by exact rfl) (hd:Sn md ops (listed.setIfInBounds m M) = []:=by kernel_rfl):fA P md ops Q8 S m (f+1) listed a w:=.last hr ho hd h
end
theorem Np {L:Q Nat} (h:fx (S++L) a b)(hL:∀ k∈L,a.heap.size<=k):fx S a b:=by
 obtain⟨h1,h2,h3,h4,h5⟩:=h;refine⟨h1,h2,h3,h4,fun k hk hn=>h5 k hk (fun hm=>?_)⟩;rcases Rr.1 hm with hm | hm
 ·exact hn hm
 ·have:=hL k hm;omega
theorem AM {Y1 Y2 W:U} {g3:Nat} (ho:fx [g3] Y1 Y)(hg:fu Y Y2)(hon:fx S Y2 W)(hS:∀ b∈S,Y1.heap.size<=b)(j:Nat)(v:Value):fx [g3] Y1 (W.setCell ⟨g3,j,C⟩ v):=
 (Np (((ho.trans (hg.only [g3])).mono (S':=[g3]++S) (fun k hk=>RH _ hk)).trans (hon.mono (fun k hk=>RK _ hk))) hS).setCell (p:=⟨g3,j,C⟩) II v
theorem pg (h:fu a b){p:RJ}{v:Value}(hp:a.cell? p=D v):b.cell? p=D v:=by
 obtain⟨os,d,rfl⟩:=h;exact zd hp os d
theorem zoH {x:gv} {A:X RJ} {c:Nat} (p0:x.Code.size<=9223372036854775807)(h1:(jm.sl 137).R w w.heap.size [G A x.fm.length c] x.fm)(hl:x.fm.length<=1099511627776) :
  RD prog 107 #[.agg #[V x.Code,G A x.fm.length c]] w (OH x w):=by
 go_enter func107,ntmps107;go_wp2_with(fail);have a4:fu w ((w.alloc (F #[V x.Code,G A x.fm.length c] 103)).alloc (F #[V ⟨#[]⟩,G C 0 0] 103)):=gG;have eb:((w.alloc (F #[V x.Code,G A x.fm.length c] 103)).alloc (F #[V ⟨#[]⟩,G C 0 0] 103)).heap[w.heap.size]?=D (F #[V x.Code,G A x.fm.length c] 103 (0,0)):=zj (Re w _) gF;have er:((w.alloc (F #[V x.Code,G A x.fm.length c] 103)).alloc (F #[V ⟨#[]⟩,G C 0 0] 103)).heap[w.heap.size+1]?=D (F #[V ⟨#[]⟩,G C 0 0] 103 (0,0)):=by have h:=Re (w.alloc (F #[V x.Code,G A x.fm.length c] 103)) (F #[V ⟨#[]⟩,G C 0 0] 103);rw[Rz] at h;exact h
 have hd:=Ty.up _ h1 a4;obtain⟨g,hg⟩:∃ g,w.heap.size=g:=⟨_,rfl⟩
 rw[hg] at eb er |-;generalize ((w.alloc _).alloc _)=Y at a4 eb er hd |-;obtain⟨y0,y1,_,_,yl⟩:=jT eb;obtain⟨z0,z1,ag,ah,zl⟩:=jT er;have af:g≠g+1:=K9;have a8:g≠Y.heap.size:=K9;have a6:g+1≠Y.heap.size:=K9;clear h1
 go_region_held3 (fun w'=>Rb w' ⟨g,0,C⟩=D (V x.Code)/\Rb w' ⟨g,1,C⟩=D (G A x.fm.length c)) ((repeat' apply Rf) <;> ((repeat (first | with_reducible assumption | with_reducible refine zd ?_ _ _ | with_reducible refine zo ?_ _ | with_reducible refine zc ?_ | with_reducible refine yq ?_ ?_));done)) (first
  | (refine zR (L:=x.fm.length) rfl (.tmp 5) (.tmp 7) AS Au (S:=[Y.heap.size]) (Has.Wy jm (Re _ _)) (Ty.up _ hd gG) rfl rfl rfl (RF _).symm K9 K9 ?_;intro A7 c7 W7 S7 a5 ab ac;have e7:=yu er gF a5 (by simpa using a6);have q0:=zC y0 gF a5 (by simpa using a8);have q1:=zC y1 gF a5 (by simpa using a8);obtain⟨a0,a1,a2,a3,_⟩:=jT e7;have ad:=(blt e7)))
 go_wp2_with(fail);have h2:=rQ e7 (V x.Code) (G A7 x.fm.length c7);obtain⟨r0,r1,_,_,_⟩:=jT h2.1;have ae:=a4.size;have aa:fu Y W7:=a5.fy (W0:=Y) gF (fun b hb=>by simp at hb;omega)
 have a9:∀ b∈S7,Y.heap.size<=b:=fun b hb=>by
  rcases ac b hb with h | h
  ·simp at h;omega
  ·simp at h;omega
 have a7:=ab.fJ h2.2 (fun b hb hm=>by have:=a9 b hb;simp at hm;omega);rw[RY] at a7;exact Rj (v:=.agg #[V x.Code,G A7 x.fm.length c7]) (by simp[Rv,results107,go_sem,r0,r1]) rfl ⟨A7,c7,rfl,K8 p0 (Has.fresh (w:=w) a7 (fun b hb=>by have:=a9 b hb;omega)).mW (Ru _),h2.2.fy (a4.trans aa) (fun b hb=>by simp at hb;omega)⟩
theorem Xf {g:Prop} (f:g:=by
  obtain⟨a0,a1,a2,af,al⟩:=iS e7
  refine fA.last Fs rfl Fs (fun K hK=>?_)
  go_simp
  refine hK.out _ _ ?_
  clear hK
  try simp only[lay]
  generalize W7.setCell _ _=Q9 at ho9 hb9 hH9 |-
  clear hS9 hon hH7 hS7 e7 hb hH ho
  have htk:s.fo.take j++[x]=s.fo.take (j+1):=by rw[R8,hxk];rfl
  rw[htk] at hH9
  go_wp2_with(fail)
  go_roundw
  exact⟨j+1,A7,c7,S7,II,K9,fh ho9,fh hb9,fh hH9,fh hlo⟩
  exact gM):g:=f
theorem vB {g:Prop} (f:g:=by
  rcases Rr.1 hb' with hb' | hb'
  ·rcases Rr.1 hb' with hb' | hb'
   ·have:=hS.out b hb'
    omega
   ·have:=HJ.la b hb'
    omega
  ·have:=HJ.lb b hb'
   omega):g:=f
theorem zjN (h0:(iG.sl 103).R w w.heap.size [G A0 s.fo.length c0] s.fo)(h1:(zr.sl 3).R w w.heap.size [G A1 s.ft.length c1] s.ft)
  (h2:(zr.sl 3).R w w.heap.size [G A2 s.ii.length c2] s.ii) (hs:jE s<=1099511627776) :
  RD prog 72 #[.agg #[G A0 s.fo.length c0,G A1 s.ft.length c1,G A2 s.ii.length c2]] w (Hb s w):=by
 have az:s.ft.length<=1099511627776:=by unfold jE at hs;omega
 have aA:s.ii.length<=1099511627776:=by unfold jE at hs;omega
 go_enter func72,ntmps72;go_upto_region 1 with(fail);have a5:fu w ((w.alloc (F #[G A0 s.fo.length c0,G A1 s.ft.length c1,G A2 s.ii.length c2] 28)).alloc (F #[G C 0 0,G C 0 0,G C 0 0] 28)):=gG;have eb:((w.alloc (F #[G A0 s.fo.length c0,G A1 s.ft.length c1,G A2 s.ii.length c2] 28)).alloc (F #[G C 0 0,G C 0 0,G C 0 0] 28)).heap[w.heap.size]?=D (F #[G A0 s.fo.length c0,G A1 s.ft.length c1,G A2 s.ii.length c2] 28 (0,0)):=zj (Re w _) gF;have er:((w.alloc (F #[G A0 s.fo.length c0,G A1 s.ft.length c1,G A2 s.ii.length c2] 28)).alloc (F #[G C 0 0,G C 0 0,G C 0 0] 28)).heap[w.heap.size+1]?=D (F #[G C 0 0,G C 0 0,G C 0 0] 28 (0,0)):=by have h:=Re (w.alloc (F #[G A0 s.fo.length c0,G A1 s.ft.length c1,G A2 s.ii.length c2] 28)) (F #[G C 0 0,G C 0 0,G C 0 0] 28);rw[Rz] at h;exact h
 have ah:=Ty.up _ h0 a5;have ai:=Ty.up _ h1 a5;have aj:=Ty.up _ h2 a5;obtain⟨g,hg⟩:∃ g,w.heap.size=g:=⟨_,rfl⟩
 rw[hg] at eb er |-;generalize ((w.alloc _).alloc _)=Y at a5 eb er ah ai aj |-;obtain⟨y0,y1,y2,_,yl⟩:=iS eb;have zl:=(iS er).2.2.2.2;clear h0 h1 h2;go_cut [3] from 3 to 13 (fun v3 wx=>∃(g3:Nat) (B1 B2:X RJ) (d1 d2:Nat) (S1 S2:Q Nat),v3=.pointer (D ⟨g3,0,C⟩)/\J3 zr zr 3 3 Y wx (G B1 s.ft.length d1) (G B2 s.ii.length d2) s.ft s.ii S1 S2 g3 (F #[G C 0 0,G B1 s.ft.length d1,G B2 s.ii.length d2] 28 (0,0))/\Y.heap.size<=g3)
 case first=>
  refine zX (fun w'=>Rb w' ⟨g,1,C⟩=D (G A1 s.ft.length c1)/\Rb w' ⟨g,2,C⟩=D (G A2 s.ii.length c2)) 10 Fs ⟨zc y1,zc y2⟩ (fun hH=>?_);have HJ:=J3.start (T:=zr) (Q5:=zr) (e:=3) (f:=3) er;have HJ:=HJ.fy ((fu.refl _).drew);generalize hYd:Y.drew=Wx at HJ hH |-;clear hYd
  repeat' first
   | (clear M3
      refine zR (L:=s.ft.length) rfl (.tmp 5) (.tmp 7) lN zE HJ.ha (Ty.up _ ai HJ.hg) rfl rfl rfl (RF _).symm K9 K9 ?_
      intro B1 d1 W1 S1 hon hH hS
      rw[RY] at hH
      have HJ:=HJ.oM hon hH hS
      refine hK.out _ _ ⟨HJ.cell y1,HJ.cell y2⟩ ?_
      clear hK
      have D3:=trivial
      try simp only[gJ])
   | (clear M7
      refine zR (L:=s.ii.length) rfl (.tmp 9) (.tmp 11) lN zE HJ.hb (Ty.up _ aj HJ.hg) rfl rfl rfl (RF _).symm K9 K9 ?_
      intro B2 d2 W2 S2 hon hH hS
      rw[RY] at hH
      have HJ:=HJ.xH hon hH hS
      refine hK.out _ _ ⟨HJ.cell y1,HJ.cell y2⟩ ?_
      clear hK
      have D7:=trivial
      try simp only[gJ])
   | (clear M0
      go_simp
      have HJ:=HJ.lk
      refine hK.out _ _ ⟨HJ.cell y1,HJ.cell y2⟩ ?_
      clear hK
      generalize Su _ (F #[] 3)=Wx at HJ |-
      have D0:=trivial
      try simp only[gJ])
   | (clear M4
      go_simp
      have HJ:=HJ.jb
      refine hK.out _ _ ⟨HJ.cell y1,HJ.cell y2⟩ ?_
      clear hK
      generalize Su _ (F #[] 3)=Wx at HJ |-
      have D4:=trivial
      try simp only[gJ])
   | (clear M9
      go_simp
      have a8:=HJ.hg.size
      have HJ:=HJ.kp (cs:=#[G C 0 0,G C 0 0,G C 0 0]) (t:=28)
      refine hK.out _ _ ⟨HJ.cell y1,HJ.cell y2⟩ ?_
      clear hK
      generalize Su _ (F #[G C 0 0,G C 0 0,G C 0 0] 28)=Wx at HJ |-
      have D9:=trivial
      try simp only[gJ])
   | ((fail_if_success clear T1);refine fA.st 1 [10] ⟨HJ.cell y1,HJ.cell y2⟩ ?_;have T1:=trivial;try simp only[gJ])
   | ((fail_if_success clear T2);refine fA.st 2 [10] ⟨HJ.cell y1,HJ.cell y2⟩ ?_;have T2:=trivial;try simp only[gJ])
   | ((fail_if_success clear T5);refine fA.st 5 [10] ⟨HJ.cell y1,HJ.cell y2⟩ ?_;have T5:=trivial;try simp only[gJ])
   | ((fail_if_success clear T6);refine fA.st 6 [10] ⟨HJ.cell y1,HJ.cell y2⟩ ?_;have T6:=trivial;try simp only[gJ])
   | ((fail_if_success clear T8);revert D0 D3 D4 D7;intro D0 D3 D4 D7;refine fA.st 8 [10] ⟨HJ.cell y1,HJ.cell y2⟩ ?_;have T8:=trivial;try simp only[gJ])
   | (revert D0 D3 D4 D7 D9;intro D0 D3 D4 D7 D9
      refine fA.sl (fun K hK=>?_)
      obtain⟨o0,o1,o2,of,ol⟩:=iS HJ.ho
      go_simp
      refine hK.out _ _ ?_
      clear hK
      try simp only[gJ]
      have h2:=rR HJ.ho (G C 0 0) (G B1 s.ft.length d1) (G B2 s.ii.length d2)
      have HJ:=HJ.store h2.2 h2.1 a8
      go_wp2_with(fail)
      go_meet
      exact⟨_,B1,B2,d1,d2,S1,S2,rfl,HJ,a8⟩)
   | (revert D0 D3 D4 D7;intro D0 D3 D4 D7;refine fA.s1 9 (fun K hK=>(fun M9:True=>?_) trivial))
   | (revert D0 D3 D4 D9;intro D0 D3 D4 D9;refine fA.s1 7 (fun K hK=>(fun M7:True=>?_) trivial))
   | (revert D0 D3 D4;intro D0 D3 D4;refine fA.s2 7 9 (fun K hK=>(fun M7:True=>?_) trivial) (fun K hK=>(fun M9:True=>?_) trivial))
   | (revert D0 D3 D9;intro D0 D3 D9;refine fA.s1 4 (fun K hK=>(fun M4:True=>?_) trivial))
   | (revert D0 D4 D9;intro D0 D4 D9;refine fA.s1 3 (fun K hK=>(fun M3:True=>?_) trivial))
   | (revert D0 D3;intro D0 D3;refine fA.s2 4 9 (fun K hK=>(fun M4:True=>?_) trivial) (fun K hK=>(fun M9:True=>?_) trivial))
   | (revert D0 D4;intro D0 D4;refine fA.s2 3 9 (fun K hK=>(fun M3:True=>?_) trivial) (fun K hK=>(fun M9:True=>?_) trivial))
   | (revert D0 D9;intro D0 D9;refine fA.s2 3 4 (fun K hK=>(fun M3:True=>?_) trivial) (fun K hK=>(fun M4:True=>?_) trivial))
   | (revert D4 D9;intro D4 D9;refine fA.s1 0 (fun K hK=>(fun M0:True=>?_) trivial))
   | (revert D0;intro D0;refine fA.s3 3 4 9 (fun K hK=>(fun M3:True=>?_) trivial) (fun K hK=>(fun M4:True=>?_) trivial) (fun K hK=>(fun M9:True=>?_) trivial))
   | (revert D4;intro D4;refine fA.s2 0 9 (fun K hK=>(fun M0:True=>?_) trivial) (fun K hK=>(fun M9:True=>?_) trivial))
   | (revert D9;intro D9;refine fA.s2 0 4 (fun K hK=>(fun M0:True=>?_) trivial) (fun K hK=>(fun M4:True=>?_) trivial))
   | (refine fA.s3 0 4 9 (fun K hK=>(fun M0:True=>?_) trivial) (fun K hK=>(fun M4:True=>?_) trivial) (fun K hK=>(fun M9:True=>?_) trivial))
 case rest=>
  obtain⟨g3,B1,B2,d1,d2,S1,S2,rfl,HJ,a8⟩:=hcut;have aq:g≠g3:=K9;have aB:=(blt HJ.ho)
  have aC:s.fo.length<=1099511627776:=by unfold jE lI at hs;omega
  have aw:=HJ.cell y0;go_wp2_with(fail);go_loopw [4] (fun z wr=>∃(j:Nat) (A:X RJ) (c:Nat) (S:Q Nat),z=J Z j/\j<=s.fo.length/\Hid (fx [g3] wc wr)/\Hid (wr.heap[g3]?=D (F #[G A j c,G B1 s.ft.length d1,G B2 s.ii.length d2] 28 (0,0)))/\Hid (Has (iG.sl 103) wr [G A j c] (s.fo.take j) S)/\Hid (∀ b∈S,wc.heap.size<=b)) (fun z _=>s.fo.length-(RS z).toNat)
  case atStart=>exact⟨0,C,0,[],rfl,Rl _,fh (fx.refl _ _),fh HJ.ho,fh (Has.nil _ _ _),fh II⟩
  case round=>
   obtain⟨j,A,c,S,rfl,hj,ho,hb,hH,hS⟩:=hrel;have a4:fu Y wr:=ho.out.fy HJ.hg (fun b hb=>by simp at hb;omega);have aD:wc.heap.size<=wr.heap.size:=ho.out.size;have k0:=pg a4 y0;obtain⟨o0,o1,o2,of,ol⟩:=iS hb.out;obtain⟨z0,z1,z2,zf,aE⟩:=iS (zj er a4);by_cases hlt:j<s.fo.length
   ·have ao:=ah
    obtain⟨gI,aa,x,Ax,cx,rfl,ay,hxk,m0,m1,p0,au⟩:=qI ao hlt;have n0:=pg a4 m0;have n1:=pg a4 m1;have a9:=Ty.up _ au a4;have ar:(j:Int)<(s.fo.length:Int):=K9;have av:x.fm.length<=1099511627776:=by have h2:x.fm.length<=mb x:=(by unfold mb lI;omega);have h1:=tS mb hxk;unfold jE at hs;omega
    have ap:gI≠g3:=K9;go_upto_region 5 with(fail);refine zX (fun w'=>Rb w' ⟨g,0,C⟩=D (G (D ⟨gI,aa,C⟩) s.fo.length c0)/\Rb w' ⟨g3,0,C⟩=D (G A j c)/\Rb w' ⟨gI,aa+j*2,C⟩=D (V x.Code)/\Rb w' ⟨gI,aa+j*2+1,C⟩=D (G Ax x.fm.length cx)) 11 Fs (Rf (zc k0) (Rf (zc o0) (Rf (zc n0) (zc n1)))) (fun hS9=>?_);refine .tq 0 [11] hS9 ?_;refine .tq 1 [11] hS9 ?_;refine .tq 2 [11] hS9 ?_;refine .tq 3 [11] hS9 ?_;refine .tq 4 [11] hS9 ?_;refine .tq 5 [11] hS9 ?_;refine .tq 6 [11] hS9 ?_;refine fA.gL (i:=7) Fs rfl (fun K hK=>?_)
    ·go_simp
     go_at_call 107
     with_reducible refine(zoH (x:=x) p0 (Ty.up _ a9 gG) av).mono ?_
     rintro e w2 ⟨Bi,ci,rfl,am,a3,d2,rfl⟩;have hS9:=Rf (zd (zc k0) a3 d2) (Rf (zd (zc o0) a3 d2) (Rf (zd (zc n0) a3 d2) (zd (zc n1) a3 d2)));refine hK.out _ _ hS9 ?_;clear hK
     try simp only[lay]
     refine fA.gL (i:=8) Fs rfl (fun K hK=>?_)
     ·go_simp
      have hS9:=Rf (zo (zd (zc k0) a3 d2) (F #[V x.Code,G Bi x.fm.length ci] 103)) (Rf (zo (zd (zc o0) a3 d2) (F #[V x.Code,G Bi x.fm.length ci] 103)) (Rf (zo (zd (zc n0) a3 d2) (F #[V x.Code,G Bi x.fm.length ci] 103)) (zo (zd (zc n1) a3 d2) (F #[V x.Code,G Bi x.fm.length ci] 103))));refine hK.out _ _ hS9 ?_;clear hK
      try simp only[lay]
      refine fA.gL (i:=9) Fs rfl (fun K hK=>?_)
      ·obtain⟨Sy,an,ak⟩:=fU.has am
       have a7:∀ b∈S,b∉Sy:=fun b hb' hm=>by have h1:=ak b hm;have h2:=hH.out.lt b hb';simp at h1;omega
       refine wU (L:=j+1) rfl (.tmp 22) (.tmp 29) Ik (hH.out.fy gF) (an.fy gF) a7 rfl rfl rfl (by intro j u hu;simpa[go_sem] using hu) rfl K9 K9 ?_;intro A7 c7 W7 S7 hon hH7 hS7;have a6:∀ k,k<wc.heap.size->k∉S:=fun k hk hm=>by have:=hS.out k hm;omega
       have e7:=yu hb.out gF hon (a6 _ K9);have hS9:=Rf (zC k0 gF hon (a6 _ K9)) (Rf (zC o0 gF hon (a6 _ K9)) (Rf (zC n0 gF hon (a6 _ K9)) (zC n1 gF hon (a6 _ K9))));have ab:fu wr ((fy wr a3 d2).alloc (F #[V x.Code,G Bi x.fm.length ci] 103)):=gF
       have hlo:∀ b∈S7,wc.heap.size<=b:=fun b hb'=>by
        rcases hS7 b hb' with h | h | h
        ·exact hS.out b h
        ·have h8:wr.heap.size<=b:=ak b h
         omega
        ·have:=ab.size;omega
       have ho9:=AM ho.out ab hon hS.out 0 (G A7 (j+1) c7);have hb9:=jd (i:=0) (v:=G A7 (j+1) c7) e7 rfl;have hH9:=hH7.fJ ((fx.refl [g3] W7).setCell (p:=⟨g3,0,C⟩) II (G A7 (j+1) c7)) (fun b hb' hm=>by have:=hlo b hb';simp at hm;omega);refine hK.out _ _ hS9 ?_;clear hK
       try simp only[lay]
       refine .tq 10 [11] hS9 ?_;exact Xf
   ·obtain rfl:j=s.fo.length:=K9
    have ar:¬ (s.fo.length:Int)<(s.fo.length:Int):=K9;have ag:=hH.out;rw[SC] at ag;go_wp2_with(fail);have h9:=rR (zj er a4) (G A s.fo.length c) (G B1 s.ft.length d1) (G B2 s.ii.length d2);obtain⟨r0,r1,r2,_,_⟩:=iS h9.1;have ac:=ag.fJ h9.2 (fun b hb' hm=>by have:=hS.out b hb';simp at hm;omega);have ad:=(HJ.ha.fJ ho.out (fun b hb' hm=>by simp at hm;exact HJ.nt (hm ▸ hb'))).fJ h9.2 (fun b hb' hm=>by have:=HJ.la b hb';simp at hm;omega);have ae:=(HJ.hb.fJ ho.out (fun b hb' hm=>by simp at hm;exact HJ.sB (hm ▸ hb'))).fJ h9.2 (fun b hb' hm=>by have:=HJ.lb b hb';simp at hm;omega);have ax:w.heap.size<=Y.heap.size:=a5.size;refine Rj (v:=.agg #[G A s.fo.length c,G B1 s.ft.length d1,G B2 s.ii.length d2]) (by simp[Rv,results72,go_sem,r0,r1,r2]) rfl ⟨A,c,B1,d1,B2,d2,rfl,⟨_,xY ac.1 ad.1 ae.1,?_,?_⟩,h9.2.fy (a5.trans a4) (fun b hb'=>by simp at hb';omega)⟩
    ·refine RM.2 ⟨RM.2 ⟨ac.2,ad.2,fun a ha b hb' he=>?_⟩,ae.2,fun a ha b hb' he=>?_⟩
     ·have h1:=hS.out a ha
      have h2:=HJ.ha.lt b hb';omega
     ·rcases Rr.1 ha with ha | ha
      ·have h1:=hS.out a ha
       have h2:=HJ.hb.lt b hb';omega
      ·exact HJ.sA a ha (he ▸ hb')
    ·intro b hb'
     exact vB
theorem zjM (h0:(iG.sl 103).R w w.heap.size [G A0 s.fo.length c0] s.fo)(h1:(zr.sl 3).R w w.heap.size [G A1 s.ft.length c1] s.ft)
  (h2:(zr.sl 3).R w w.heap.size [G A2 s.ii.length c2] s.ii) (hs:jE s<=1099511627776) :
  RD prog 78 #[.agg #[G A0 s.fo.length c0,G A1 s.ft.length c1,G A2 s.ii.length c2]] w (Hb s w):=by
 have aH:s.ft.length<=1099511627776:=by unfold jE at hs;omega
 have aI:s.ii.length<=1099511627776:=by unfold jE at hs;omega
 go_enter func78,ntmps78;go_upto_region 1 with(fail);have a5:fu w ((w.alloc (F #[G A0 s.fo.length c0,G A1 s.ft.length c1,G A2 s.ii.length c2] 28)).alloc (F #[G C 0 0,G C 0 0,G C 0 0] 28)):=gG;have eb:((w.alloc (F #[G A0 s.fo.length c0,G A1 s.ft.length c1,G A2 s.ii.length c2] 28)).alloc (F #[G C 0 0,G C 0 0,G C 0 0] 28)).heap[w.heap.size]?=D (F #[G A0 s.fo.length c0,G A1 s.ft.length c1,G A2 s.ii.length c2] 28 (0,0)):=zj (Re w _) gF;have er:((w.alloc (F #[G A0 s.fo.length c0,G A1 s.ft.length c1,G A2 s.ii.length c2] 28)).alloc (F #[G C 0 0,G C 0 0,G C 0 0] 28)).heap[w.heap.size+1]?=D (F #[G C 0 0,G C 0 0,G C 0 0] 28 (0,0)):=by have h:=Re (w.alloc (F #[G A0 s.fo.length c0,G A1 s.ft.length c1,G A2 s.ii.length c2] 28)) (F #[G C 0 0,G C 0 0,G C 0 0] 28);rw[Rz] at h;exact h
 have an:=Ty.up _ h0 a5;have ao:=Ty.up _ h1 a5;have ap:=Ty.up _ h2 a5;obtain⟨g,hg⟩:∃ g,w.heap.size=g:=⟨_,rfl⟩
 rw[hg] at eb er |-;generalize ((w.alloc _).alloc _)=Y at a5 eb er an ao ap |-;obtain⟨y0,y1,y2,_,yl⟩:=iS eb;have zl:=(iS er).2.2.2.2;clear h0 h1 h2;go_cut [3] from 3 to 14 (fun v3 wx=>∃(g3:Nat) (B1 B2:X RJ) (d1 d2:Nat) (S1 S2:Q Nat),v3=.pointer (D ⟨g3,0,C⟩)/\J3 zr zr 3 3 Y wx (G B1 s.ft.length d1) (G B2 s.ii.length d2) s.ft s.ii S1 S2 g3 (F #[G C 0 0,G B1 s.ft.length d1,G B2 s.ii.length d2] 28 (0,0))/\Y.heap.size<=g3)
 case first=>
  refine zX (fun w'=>Rb w' ⟨g,1,C⟩=D (G A1 s.ft.length c1)/\Rb w' ⟨g,2,C⟩=D (G A2 s.ii.length c2)) 10 Fs ⟨zc y1,zc y2⟩ (fun hH=>?_);have HJ:=J3.start (T:=zr) (Q5:=zr) (e:=3) (f:=3) er;have HJ:=HJ.fy ((fu.refl _).drew);generalize hYd:Y.drew=Wx at HJ hH |-;clear hYd
  repeat' first
   | (clear M3
      refine zR (L:=s.ft.length) rfl (.tmp 6) (.tmp 8) lN zE HJ.ha (Ty.up _ ao HJ.hg) rfl rfl rfl (RF _).symm K9 K9 ?_
      intro B1 d1 W1 S1 hon hH hS
      rw[RY] at hH
      have HJ:=HJ.oM hon hH hS
      refine hK.out _ _ ⟨HJ.cell y1,HJ.cell y2⟩ ?_
      clear hK
      have D3:=trivial
      try simp only[gJ])
   | (clear M7
      refine zR (L:=s.ii.length) rfl (.tmp 10) (.tmp 12) lN zE HJ.hb (Ty.up _ ap HJ.hg) rfl rfl rfl (RF _).symm K9 K9 ?_
      intro B2 d2 W2 S2 hon hH hS
      rw[RY] at hH
      have HJ:=HJ.xH hon hH hS
      refine hK.out _ _ ⟨HJ.cell y1,HJ.cell y2⟩ ?_
      clear hK
      have D7:=trivial
      try simp only[gJ])
   | (clear M0
      go_simp
      have HJ:=HJ.lk
      refine hK.out _ _ ⟨HJ.cell y1,HJ.cell y2⟩ ?_
      clear hK
      generalize Su _ (F #[] 3)=Wx at HJ |-
      have D0:=trivial
      try simp only[gJ])
   | (clear M4
      go_simp
      have HJ:=HJ.jb
      refine hK.out _ _ ⟨HJ.cell y1,HJ.cell y2⟩ ?_
      clear hK
      generalize Su _ (F #[] 3)=Wx at HJ |-
      have D4:=trivial
      try simp only[gJ])
   | (clear M9
      go_simp
      have ae:=HJ.hg.size
      have HJ:=HJ.kp (cs:=#[G C 0 0,G C 0 0,G C 0 0]) (t:=28)
      refine hK.out _ _ ⟨HJ.cell y1,HJ.cell y2⟩ ?_
      clear hK
      generalize Su _ (F #[G C 0 0,G C 0 0,G C 0 0] 28)=Wx at HJ |-
      have D9:=trivial
      try simp only[gJ])
   | ((fail_if_success clear T1);refine fA.st 1 [10] ⟨HJ.cell y1,HJ.cell y2⟩ ?_;have T1:=trivial;try simp only[gJ])
   | ((fail_if_success clear T2);refine fA.st 2 [10] ⟨HJ.cell y1,HJ.cell y2⟩ ?_;have T2:=trivial;try simp only[gJ])
   | ((fail_if_success clear T5);refine fA.st 5 [10] ⟨HJ.cell y1,HJ.cell y2⟩ ?_;have T5:=trivial;try simp only[gJ])
   | ((fail_if_success clear T6);refine fA.st 6 [10] ⟨HJ.cell y1,HJ.cell y2⟩ ?_;have T6:=trivial;try simp only[gJ])
   | ((fail_if_success clear T8);revert D0 D3 D4 D7;intro D0 D3 D4 D7;refine fA.st 8 [10] ⟨HJ.cell y1,HJ.cell y2⟩ ?_;have T8:=trivial;try simp only[gJ])
   | (revert D0 D3 D4 D7 D9;intro D0 D3 D4 D7 D9
      refine fA.sl (fun K hK=>?_)
      obtain⟨o0,o1,o2,of,ol⟩:=iS HJ.ho
      go_simp
      refine hK.out _ _ ?_
      clear hK
      try simp only[gJ]
      have h2:=rR HJ.ho (G C 0 0) (G B1 s.ft.length d1) (G B2 s.ii.length d2)
      have HJ:=HJ.store h2.2 h2.1 ae
      go_wp2_with(fail)
      go_meet
      exact⟨_,B1,B2,d1,d2,S1,S2,rfl,HJ,ae⟩)
   | (revert D0 D3 D4 D7;intro D0 D3 D4 D7;refine fA.s1 9 (fun K hK=>(fun M9:True=>?_) trivial))
   | (revert D0 D3 D4 D9;intro D0 D3 D4 D9;refine fA.s1 7 (fun K hK=>(fun M7:True=>?_) trivial))
   | (revert D0 D3 D4;intro D0 D3 D4;refine fA.s2 7 9 (fun K hK=>(fun M7:True=>?_) trivial) (fun K hK=>(fun M9:True=>?_) trivial))
   | (revert D0 D3 D9;intro D0 D3 D9;refine fA.s1 4 (fun K hK=>(fun M4:True=>?_) trivial))
   | (revert D0 D4 D9;intro D0 D4 D9;refine fA.s1 3 (fun K hK=>(fun M3:True=>?_) trivial))
   | (revert D0 D3;intro D0 D3;refine fA.s2 4 9 (fun K hK=>(fun M4:True=>?_) trivial) (fun K hK=>(fun M9:True=>?_) trivial))
   | (revert D0 D4;intro D0 D4;refine fA.s2 3 9 (fun K hK=>(fun M3:True=>?_) trivial) (fun K hK=>(fun M9:True=>?_) trivial))
   | (revert D0 D9;intro D0 D9;refine fA.s2 3 4 (fun K hK=>(fun M3:True=>?_) trivial) (fun K hK=>(fun M4:True=>?_) trivial))
   | (revert D4 D9;intro D4 D9;refine fA.s1 0 (fun K hK=>(fun M0:True=>?_) trivial))
   | (revert D0;intro D0;refine fA.s3 3 4 9 (fun K hK=>(fun M3:True=>?_) trivial) (fun K hK=>(fun M4:True=>?_) trivial) (fun K hK=>(fun M9:True=>?_) trivial))
   | (revert D4;intro D4;refine fA.s2 0 9 (fun K hK=>(fun M0:True=>?_) trivial) (fun K hK=>(fun M9:True=>?_) trivial))
   | (revert D9;intro D9;refine fA.s2 0 4 (fun K hK=>(fun M0:True=>?_) trivial) (fun K hK=>(fun M4:True=>?_) trivial))
   | (refine fA.s3 0 4 9 (fun K hK=>(fun M0:True=>?_) trivial) (fun K hK=>(fun M4:True=>?_) trivial) (fun K hK=>(fun M9:True=>?_) trivial))
 case rest=>
  obtain⟨g3,B1,B2,d1,d2,S1,S2,rfl,HJ,ae⟩:=hcut;have aB:g≠g3:=K9;have aJ:=(blt HJ.ho)
  have aK:s.fo.length<=1099511627776:=by unfold jE lI at hs;omega
  have aE:=HJ.cell y0;go_wp2_with(fail);go_loopw [18] (fun z wr=>∃(j:Nat) (A:X RJ) (c:Nat) (S:Q Nat),z=J Z j/\j<=s.fo.length/\Hid (fx [g3] wc wr)/\Hid (wr.heap[g3]?=D (F #[G A j c,G B1 s.ft.length d1,G B2 s.ii.length d2] 28 (0,0)))/\Hid (Has (iG.sl 103) wr [G A j c] (s.fo.take j) S)/\Hid (∀ b∈S,wc.heap.size<=b)) (fun z _=>s.fo.length-(RS z).toNat)
  case atStart=>exact⟨0,C,0,[],rfl,Rl _,fh (fx.refl _ _),fh HJ.ho,fh (Has.nil _ _ _),fh II⟩
  case round=>
   obtain⟨j,A,c,S,rfl,hj,ho,hb,hH,hS⟩:=hrel;have a4:fu Y wr:=ho.out.fy HJ.hg (fun b hb=>by simp at hb;omega);have aL:wc.heap.size<=wr.heap.size:=ho.out.size;have k0:=pg a4 y0;obtain⟨o0,o1,o2,of,ol⟩:=iS hb.out;obtain⟨z0,z1,z2,zf,aO⟩:=iS (zj er a4);by_cases hlt:j<s.fo.length
   ·have az:=an
    obtain⟨gI,aN,x,Ax,cx,rfl,aG,hxk,m0,m1,p0,aD⟩:=qI az hlt;have n0:=pg a4 m0;have n1:=pg a4 m1;have ag:=Ty.up _ aD a4;have aC:(j:Int)<(s.fo.length:Int):=K9;have aM:x.fm.length<=1099511627776:=by have h2:x.fm.length<=mb x:=(by unfold mb lI;omega);have h1:=tS mb hxk;unfold jE at hs;omega
    have aA:gI≠g3:=K9;go_upto_region 5 with(fail);have a6:fu wr (wr.alloc (F #[V x.Code,G Ax x.fm.length cx] 103)):=gG;have eV:(wr.alloc (F #[V x.Code,G Ax x.fm.length cx] 103)).heap[wr.heap.size]?=D (F #[V x.Code,G Ax x.fm.length cx] 103 (0,0)):=Re _ _;obtain⟨b5,ax⟩:∃ b5,wr.heap.size=b5:=⟨_,rfl⟩
    rw[ax] at eV |-;generalize wr.alloc _=Q7 at a6 eV |-;have ay:=zj hb.out a6;have au:=hH.out.fy a6;have ah:=Ty.up _ ag a6;obtain⟨v0,v1,_,_,vl⟩:=jT eV;clear o0 o1 o2 of ol;obtain⟨o0,o1,o2,of,ol⟩:=iS ay;have ac:g3≠Q7.heap.size:=K9;have a7:b5≠Q7.heap.size:=K9;refine zX (fun w'=>Rb w' ⟨g3,0,C⟩=D (G A j c)/\Rb w' ⟨b5,0,C⟩=D (V x.Code)/\Rb w' ⟨b5,1,C⟩=D (G Ax x.fm.length cx)) 12 Fs (Rf (zc o0) (Rf (zc v0) (zc v1))) (fun hS9=>?_);refine .tq 0 [12] hS9 ?_;refine .tq 1 [12] hS9 ?_;refine .tq 2 [12] hS9 ?_;refine .tq 3 [12] hS9 ?_;refine .tq 5 [12] hS9 ?_;refine .tq 6 [12] hS9 ?_;refine fA.gL (i:=4) Fs rfl (fun K hK=>?_)
    ·go_simp
     have hS9:=Rf (zo (zc o0) (F #[] 137)) (Rf (zo (zc v0) (F #[] 137)) (zo (zc v1) (F #[] 137)));refine hK.out _ _ hS9 ?_;clear hK
     try simp only[lay]
     refine fA.gL (i:=7) Fs rfl (fun K hK=>?_)
     ·refine zR (L:=x.fm.length) rfl (.tmp 26) (.tmp 28) AS Au (S:=[Q7.heap.size]) (Has.Wy jm (Re _ _)) (Ty.up _ ah gG) rfl rfl rfl (RF _).symm K9 K9 ?_
      intro A6 c6 W6 S6 a3 ab aw;rw[RY] at ab;have q0:=zC o0 gF a3 (by simpa using ac);have q1:=zC v0 gF a3 (by simpa using a7);have q2:=zC v1 gF a3 (by simpa using a7);have aa:fu Q7 W6:=a3.fy (W0:=Q7) gF (fun b hb'=>by simp at hb';omega)
      have ar:∀ b∈S6,Q7.heap.size<=b:=fun b hb'=>by
       rcases aw b hb' with h | h
       ·simp at h;omega
       ·have h9:Q7.heap.size+1<=b:=by simpa using h
        omega
      have hS9:=Rf q0 (Rf q1 q2);refine hK.out _ _ hS9 ?_;clear hK
      try simp only[lay]
      refine .tq 8 [12] hS9 ?_;refine fA.gL (i:=9) Fs rfl (fun K hK=>?_)
      ·go_simp
       have hS9:=Rf (zo q0 (F #[V x.Code,G A6 x.fm.length c6] 103)) (Rf (zo q1 (F #[V x.Code,G A6 x.fm.length c6] 103)) (zo q2 (F #[V x.Code,G A6 x.fm.length c6] 103)));refine hK.out _ _ hS9 ?_;clear hK
       try simp only[lay]
       refine fA.gL (i:=10) Fs rfl (fun K hK=>?_)
       ·have av:Has iG (W6.alloc (F #[V x.Code,G A6 x.fm.length c6] 103)) [V x.Code,G A6 x.fm.length c6] x S6:=Has.fy (W:=W6) ⟨zt p0 ab.1,ab.2⟩ gF
        have a9:fu wr (W6.alloc (F #[V x.Code,G A6 x.fm.length c6] 103)):=(a6.trans aa).alloc _;have ad:∀ b∈S,b∉S6:=fun b hb' hm=>by have h1:=ar b hm;have h2:=au.lt b hb';omega
        refine wU (L:=j+1) rfl (.tmp 23) (.tmp 31) Ik (hH.out.fy a9) av ad rfl rfl rfl (by intro j u hu;simpa[go_sem] using hu) rfl K9 K9 ?_;intro A7 c7 W7 S7 hon hH7 hS7;have aq:∀ k,k<wc.heap.size->k∉S:=fun k hk hm=>by have:=hS.out k hm;omega
        have a8:b5∉S:=fun hm=>by have:=hH.out.lt b5 hm;omega
        have e7:=yu hb.out a9 hon (aq _ K9);have hS9:=Rf (zC (zo q0 (F #[V x.Code,G A6 x.fm.length c6] 103)) (fu.refl _) hon (aq _ K9)) (Rf (zC (zo q1 (F #[V x.Code,G A6 x.fm.length c6] 103)) (fu.refl _) hon a8) (zC (zo q2 (F #[V x.Code,G A6 x.fm.length c6] 103)) (fu.refl _) hon a8))
        have hlo:∀ b∈S7,wc.heap.size<=b:=fun b hb'=>by
         rcases hS7 b hb' with h | h | h
         ·exact hS.out b h
         ·have:=ar b h
          have:=a6.size;omega
         ·have:=a9.size
          omega
        have ho9:=AM ho.out a9 hon hS.out 0 (G A7 (j+1) c7);have hb9:=jd (i:=0) (v:=G A7 (j+1) c7) e7 rfl;have hH9:=hH7.fJ ((fx.refl [g3] W7).setCell (p:=⟨g3,0,C⟩) II (G A7 (j+1) c7)) (fun b hb' hm=>by have:=hlo b hb';simp at hm;omega);refine hK.out _ _ hS9 ?_;clear hK
        try simp only[lay]
        refine .tq 11 [12] hS9 ?_;exact Xf
   ·obtain rfl:j=s.fo.length:=K9
    have aC:¬ (s.fo.length:Int)<(s.fo.length:Int):=K9;have am:=hH.out;rw[SC] at am;go_wp2_with(fail);have h9:=rR (zj er a4) (G A s.fo.length c) (G B1 s.ft.length d1) (G B2 s.ii.length d2);obtain⟨r0,r1,r2,_,_⟩:=iS h9.1;have ai:=am.fJ h9.2 (fun b hb' hm=>by have:=hS.out b hb';simp at hm;omega);have aj:=(HJ.ha.fJ ho.out (fun b hb' hm=>by simp at hm;exact HJ.nt (hm ▸ hb'))).fJ h9.2 (fun b hb' hm=>by have:=HJ.la b hb';simp at hm;omega);have ak:=(HJ.hb.fJ ho.out (fun b hb' hm=>by simp at hm;exact HJ.sB (hm ▸ hb'))).fJ h9.2 (fun b hb' hm=>by have:=HJ.lb b hb';simp at hm;omega);have aF:w.heap.size<=Y.heap.size:=a5.size;refine Rj (v:=.agg #[G A s.fo.length c,G B1 s.ft.length d1,G B2 s.ii.length d2]) (by simp[Rv,results78,go_sem,r0,r1,r2]) rfl ⟨A,c,B1,d1,B2,d2,rfl,⟨_,xY ai.1 aj.1 ak.1,?_,?_⟩,h9.2.fy (a5.trans a4) (fun b hb'=>by simp at hb';omega)⟩
    ·refine RM.2 ⟨RM.2 ⟨ai.2,aj.2,fun a ha b hb' he=>?_⟩,ak.2,fun a ha b hb' he=>?_⟩
     ·have h1:=hS.out a ha
      have h2:=HJ.ha.lt b hb';omega
     ·rcases Rr.1 ha with ha | ha
      ·have h1:=hS.out a ha
       have h2:=HJ.hb.lt b hb';omega
      ·exact HJ.sA a ha (he ▸ hb')
    ·intro b hb'
     exact vB
def BG:fv:=⟨0,0,0,[],[],0,0⟩
def oH (s:gk):fv × Bool:=if zZ s=M then (⟨s.ii.headD 0,1199,1200,RN 1200 0,[],0,0⟩,M) else (BG,I)
def OI (p:fv × Bool)(w:U)(e:Ending)(w':U):Prop:=∃ A0 c0 A1 c1,e=.returned (.tuple #[.agg #[J Z p.1.Pc,J Z p.1.Sp,J Z p.1.Fp,G A0 p.1.pm.length c0,G A1 p.1.If.length c1,J Z p.1.rc,J Z p.1.Value],H p.2])/\fU zG w w' [J Z p.1.Pc,J Z p.1.Sp,J Z p.1.Fp,G A0 p.1.pm.length c0,G A1 p.1.If.length c1,J Z p.1.rc,J Z p.1.Value] p.1/\fu w w'
theorem FP (w:U):∀ n,AC zr w (RN n (J Z 0)) (RN n 0) []
 | 0=>by simp[AC]
 | n+1=>by
  rw[List.replicate_succ,List.replicate_succ];exact⟨[J Z 0],RN n (J Z 0),[],[],rfl,rfl,⟨rfl,qo,qo,rfl⟩,FP w n⟩
theorem LK (n:Nat):(SM #[J Z 0] n).toList=RN n (J Z 0):=by
 apply List.ext_getElem
 ·simp[SM]
 ·intro i h1 h2
  simp[SM,Nat.mod_one]
theorem Lv {Q9:U} {g:Nat} (hg:Q9.heap[g]?=D (F (SM #[J Z 0] 1200) 3 (0,0)))(hl:w.heap.size<=g):fU (zr.sl 3) w Q9 [G (D ⟨g,0,C⟩) (RN 1200 (0:Int)).length 1200] (RN 1200 0):=by
 have h:=qi (T:=zr) (xs:=RN 1200 (0:Int)) (S:=[]) hg (by rw[LK];exact FP Q9 1200) (by rw[Sj];decide);have e:(RN 1200 (0:Int)).length=1200:=Sj;rw[e] at h |-;exact⟨[g],h,II,by simpa using hl⟩
theorem Mn (w W:U)(h:w.heap.size<=W.heap.size):fU zG w W [J Z 0,J Z 0,J Z 0,G C 0 0,G C 0 0,J Z 0,J Z 0] BG:=
 yW (x:=BG) ⟨qo,qo⟩ ⟨qo,qo⟩ ⟨qo,qo⟩ (AJ W W).mW (AJ W W).mW ⟨qo,qo⟩ ⟨qo,qo⟩ h h (.inl (Ru _))
theorem zxn (h0:(iG.sl 103).R w w.heap.size [G A0 s.fo.length c0] s.fo)(h1:(zr.sl 3).R w w.heap.size [G A1 s.ft.length c1] s.ft)
  (h2:(zr.sl 3).R w w.heap.size [G A2 s.ii.length c2] s.ii) (hs:jE s<=1099511627776) :
  RD prog 76 #[.agg #[G A0 s.fo.length c0,G A1 s.ft.length c1,G A2 s.ii.length c2]] w (OI (oH s) w):=by
 obtain⟨b,hb⟩:∃ b,zZ s=b:=⟨_,rfl⟩
 have HB:=fh hb;cases b with
 | false=>
  have HQ:=fh (show oH s=(BG,I) from by unfold oH;rw[hb];rfl);clear hb;go_enter func76,ntmps76;go_wp2_with(go_at_call 41;(with_reducible refine(zbG (s:=s) (Ty.up _ h0 gG) (Ty.up _ h1 gG) (Ty.up _ h2 gG) hs).mono ?_);rw[HB.out];rintro e w1 ⟨rfl,a2,d1,rfl⟩);rw[HQ.out];exact Rj (v:=.tuple #[.agg #[J Z 0,J Z 0,J Z 0,G C 0 0,G C 0 0,J Z 0,J Z 0],H I]) (by simp[Rv,results76,go_sem]) rfl ⟨C,0,C,0,rfl,Mn _ _ (by simp <;> omega),gG⟩
 | true=>
  have a1:0<s.ii.length:=by
   have h:=hb;unfold zZ at h;simp only[Rq,RC] at h;have:=zu.1 h.1.1.1.1.2;omega
  obtain⟨i0,hi,ag,ah,ai⟩:=Tn Cx;have aa:=Ec (P:=prog) 26 3 i0 _ underlying26 hi ag Z Z 1200 1200 (Ru _) (by rw[ai];omega) K9;rw[ah,TO] at aa;have ao:∀ w:U,(Instr.makeSlice 26 (J Z 1200) (J Z 1200)).run prog w=.ok (G (D ⟨w.heap.size,0,C⟩) 1200 1200) (w.alloc (F (SM #[J Z 0] 1200) 3)):=fun w=>aa w;clear ag ah ai hi aa;have aq:s.ii.length<=1099511627776:=by unfold jE at hs;omega
  have ad:=h2;obtain⟨g,a0,x,rfl,ac,a8,aj,ak⟩:=lJ h2 a1;simp only[Sr] at a8;have af:=R7 _ _ a8;simp only at af
  have HQ:=fh (show oH s=(⟨x,1199,1200,RN 1200 0,[],0,0⟩,M) from by
   unfold oH;rw[Rs hb]
   have:s.ii.headD 0=x:=by
    cases he:s.ii with
    | nil=>rw[he] at a1;exact absurd a1 II
    | cons a r=>rw[he] at ac;simpa using ac
   rw[this])
  clear hb ac;go_enter func76,ntmps76;go_wp2_with(go_at_call 41;(with_reducible refine(zbG (s:=s) (Ty.up _ h0 gG) (Ty.up _ h1 gG) (Ty.up _ ad gG) hs).mono ?_);rw[HB.out];rintro e w1 ⟨rfl,a2,d1,rfl⟩);have a7:fu w (fy ((w.alloc (F #[G A0 s.fo.length c0,G A1 s.ft.length c1,G (D ⟨g,a0,C⟩) s.ii.length c2] 28)).alloc (F #[J Z 0,J Z 0,J Z 0,G C 0 0,G C 0 0,J Z 0,J Z 0] 41)) a2 d1):=gG;have eb:(fy ((w.alloc (F #[G A0 s.fo.length c0,G A1 s.ft.length c1,G (D ⟨g,a0,C⟩) s.ii.length c2] 28)).alloc (F #[J Z 0,J Z 0,J Z 0,G C 0 0,G C 0 0,J Z 0,J Z 0] 41)) a2 d1).heap[w.heap.size]?=D (F #[G A0 s.fo.length c0,G A1 s.ft.length c1,G (D ⟨g,a0,C⟩) s.ii.length c2] 28 (0,0)):=zj (Re w _) gF;have er:(fy ((w.alloc (F #[G A0 s.fo.length c0,G A1 s.ft.length c1,G (D ⟨g,a0,C⟩) s.ii.length c2] 28)).alloc (F #[J Z 0,J Z 0,J Z 0,G C 0 0,G C 0 0,J Z 0,J Z 0] 41)) a2 d1).heap[w.heap.size+1]?=D (F #[J Z 0,J Z 0,J Z 0,G C 0 0,G C 0 0,J Z 0,J Z 0] 41 (0,0)):=zj (show ((w.alloc (F #[G A0 s.fo.length c0,G A1 s.ft.length c1,G (D ⟨g,a0,C⟩) s.ii.length c2] 28)).alloc (F #[J Z 0,J Z 0,J Z 0,G C 0 0,G C 0 0,J Z 0,J Z 0] 41)).heap[w.heap.size+1]?=_ from by have h:=Re (w.alloc (F #[G A0 s.fo.length c0,G A1 s.ft.length c1,G (D ⟨g,a0,C⟩) s.ii.length c2] 28)) (F #[J Z 0,J Z 0,J Z 0,G C 0 0,G C 0 0,J Z 0,J Z 0] 41);rw[Rz] at h;exact h) gF;obtain⟨gb,hg⟩:∃ gb,w.heap.size=gb:=⟨_,rfl⟩
  have a9:(fy ((w.alloc (F #[G A0 s.fo.length c0,G A1 s.ft.length c1,G (D ⟨g,a0,C⟩) s.ii.length c2] 28)).alloc (F #[J Z 0,J Z 0,J Z 0,G C 0 0,G C 0 0,J Z 0,J Z 0] 41)) a2 d1).cell? ⟨g,a0,C⟩=D (J Z x):=by obtain⟨os,d,e⟩:=a7;rw[e];exact zd a8 os d
  rw[hg] at eb er af |-;generalize (fy ((w.alloc _).alloc _) a2 d1)=Y at a7 eb er a9 |-;obtain⟨y0,y1,y2,_,yl⟩:=iS eb;obtain⟨z0,z1,z2,z3,z4,z5,z6,zf,zl⟩:=zK er;have au:gb≠gb+1:=K9;have an:g≠gb+1:=K9;have ar:g<Y.heap.size:=K9;clear a8 h0 h1 h2 ad;go_region_held3 (fun w'=>Rb w' ⟨gb,2,C⟩=D (G (D ⟨g,a0,C⟩) s.ii.length c2)/\Rb w' ⟨g,a0,C⟩=D (J Z x)) ((repeat' apply Rf) <;> ((repeat (first | with_reducible assumption | with_reducible refine zd ?_ _ _ | with_reducible refine zo ?_ _ | with_reducible refine zc ?_ | with_reducible refine yq ?_ ?_));done)) (first | (fail));go_wp2_with(fail);rw[HQ.out];have h2:=lO er (J Z x) (J Z 1199) (J Z 1200) (G (D ⟨Y.heap.size,0,C⟩) 1200 1200) (G C 0 0) (J Z 0) (J Z 0);have ae:(((((((Y.setCell ⟨gb+1,0,C⟩ (J Z x)).setCell ⟨gb+1,1,C⟩ (J Z 1199)).setCell ⟨gb+1,2,C⟩ (J Z 1200)).setCell ⟨gb+1,3,C⟩ (G (D ⟨Y.heap.size,0,C⟩) 1200 1200)).setCell ⟨gb+1,4,C⟩ (G C 0 0)).setCell ⟨gb+1,5,C⟩ (J Z 0)).setCell ⟨gb+1,6,C⟩ (J Z 0)).heap.size=Y.heap.size:=II;generalize (((((((Y.setCell _ _).setCell _ _).setCell _ _).setCell _ _).setCell _ _).setCell _ _).setCell _ _)=Q9 at h2 ae |-;obtain⟨r0,r1,r2,r3,r4,r5,r6,_,_⟩:=zK h2.1;have a3:=Re Q9 (F (SM #[J Z 0] 1200) 3);rw[ae] at a3;have a4:((Q9.alloc (F (SM #[J Z 0] 1200) 3)).drew).heap[Y.heap.size]?=D (F (SM #[J Z 0] 1200) 3 (0,0)):=a3;have hf:=Lv (w:=Y) a4 (Ru _);have ab:fE x:=⟨aj,ak⟩
  have n0:fE 0:=⟨qo,qo⟩
  have a5:fE 1199:=⟨qo,qo⟩
  have a6:fE 1200:=⟨qo,qo⟩
  have al:(RN 1200 (0:Int)).length=1200:=Sj;have am:=h2.2.fy a7 (fun b hb=>by simp at hb;omega);have ap:=a7.size
  have hF:fU zG w ((Q9.alloc (F (SM #[J Z 0] 1200) 3)).drew) [J Z x,J Z 1199,J Z 1200,G (D ⟨Y.heap.size,0,C⟩) (RN 1200 (0:Int)).length 1200,G C 0 0,J Z 0,J Z 0] ⟨x,1199,1200,RN 1200 0,[],0,0⟩:=
   yW (x:=⟨x,1199,1200,RN 1200 0,[],0,0⟩) ab a5 a6 hf.mW (AJ ((Q9.alloc (F (SM #[J Z 0] 1200) 3)).drew) _).mW n0 n0 ap (by simp <;> omega) (.inl (Ru _))
  rw[al] at hF;have q0:=zc (zo r0 (F (SM #[J Z 0] 1200) 3));have q1:=zc (zo r1 (F (SM #[J Z 0] 1200) 3));have q2:=zc (zo r2 (F (SM #[J Z 0] 1200) 3));have q3:=zc (zo r3 (F (SM #[J Z 0] 1200) 3));have q4:=zc (zo r4 (F (SM #[J Z 0] 1200) 3));have q5:=zc (zo r5 (F (SM #[J Z 0] 1200) 3));have q6:=zc (zo r6 (F (SM #[J Z 0] 1200) 3));refine Rj (v:=.tuple #[.agg #[J Z x,J Z 1199,J Z 1200,G (D ⟨Y.heap.size,0,C⟩) 1200 1200,G C 0 0,J Z 0,J Z 0],H M]) (by simp[Rv,results76,go_sem,q0,q1,q2,q3,q4,q5,q6]) rfl ⟨D ⟨Y.heap.size,0,C⟩,1200,C,0,?_,?_,am.trans gF⟩
  ·simp only[Sj,RR]
  ·simp only[Sj,RR];exact hF
def xD:fO:=⟨⟨[],[],[]⟩,[],0,0,0⟩
def pR (s:gk)(n:Nat)(sl:Int):fO:=⟨s,RN n (oH s).1,0,sl,sl⟩
def zB (s:gk)(th sl:Int):fO × Bool:=if fP th 1 3=M/\jq (pR s th.toNat sl)=M then (pR s th.toNat sl,M) else (xD,I)
def OJ (p:fO × Bool)(w:U)(e:Ending)(w':U):Prop:=∃ A0 c0 A1 c1 A2 c2 A3 c3,e=.returned (.tuple #[.agg #[G A0 p.1.fk.fo.length c0,G A1 p.1.fk.ft.length c1,G A2 p.1.fk.ii.length c2,G A3 p.1.fq.length c3,J Z p.1.fR,J Z p.1.EQ,J Z p.1.ws],H p.2])/\fU nC w w' [G A0 p.1.fk.fo.length c0,G A1 p.1.fk.ft.length c1,G A2 p.1.fk.ii.length c2,G A3 p.1.fq.length c3,J Z p.1.fR,J Z p.1.EQ,J Z p.1.ws] p.1/\fu w w'
theorem ze {B:Nat} {x:gk} (h:kY.R w B [G A0 x.fo.length c0,G A1 x.ft.length c1,G A2 x.ii.length c2] x):(iG.sl 103).R w B [G A0 x.fo.length c0] x.fo/\(zr.sl 3).R w B [G A1 x.ft.length c1] x.ft/\(zr.sl 3).R w B [G A2 x.ii.length c2] x.ii:=by
 obtain⟨a0,a3,a1,a4,a2,a5,hc,f0,f1,f2⟩:=Hy h;simp only[TL,SY,U1,Ud] at hc;obtain⟨⟨rfl,rfl⟩,⟨rfl,rfl⟩,⟨rfl,rfl⟩⟩:=hc;exact⟨f0,f1,f2⟩
theorem Xz (s:gk):jV (oH s).1<=1200:=by
 unfold oH;split
 ·show (RN 1200 (0:Int)).length+0<=1200
  rw[Sj];decide
 ·exact Rl _
theorem Hg (s:gk)(n:Nat)(sl:Int):zN (pR s n sl)<=jE s+1201*n:=by
 have h:=Xz s;unfold zN pR lI;simp only[Sj,List.map_replicate,List.sum_replicate_nat];have:=Nat.mul_le_mul_left n h;omega
theorem FG (s:gk)(n:Nat)(sl:Int)(h:n=0∨3<n):jq (pR s n sl)=I:=by
 unfold jq
 have:fP ((pR s n sl).fq.length) 1 3=I:=by
  unfold pR fP;simp only[Sj];rcases h with h | h
  ·subst h;rfl
  ·have:¬ ((n:Int)<=3):=K9
   simp[this]
   try omega
 rw[this];simp
def rJ (th:Int):Nat:=if th<=0 then 0 else if th<=3 then th.toNat else 4
theorem ND {k:Nat} (h:k<rJ th):(k:Int)<th/\(k:Int)<=3:=by
 unfold rJ at h;split at h
 ·omega
 ·split at h <;> omega
theorem NC:¬ ((rJ th:Int)<th/\(rJ th:Int)<=3):=by
 unfold rJ;split
 ·omega
 ·split <;> omega
theorem JS (s:gk)(th sl:Int):zB s th sl=if jq (pR s (rJ th) sl)=M then (pR s (rJ th) sl,M) else (xD,I):=by
 unfold zB rJ;by_cases h0:th<=0
 ·rw[Rs h0,Ro (by rw[zu];omega),Ro (by rw[FG s 0 sl (.inl rfl)];simp)]
 ·rw[Ro h0]
  by_cases h3:th<=3
  ·rw[Rs h3]
   have:fP th 1 3=M:=zu.2 ⟨K9,h3⟩;simp only[this,U1]
  ·rw[Ro h3,Ro (by rw[zu];omega),Ro (by rw[FG s 4 sl (.inr K9)];simp)]
theorem JL (w W:U)(h:w.heap.size<=W.heap.size):fU nC w W [G C 0 0,G C 0 0,G C 0 0,G C 0 0,J Z 0,J Z 0,J Z 0] xD:=by
 have n0:fE 0:=⟨qo,qo⟩
 exact⟨_,yY (x:=xD) (xY (x:=⟨[],[],[]⟩) (Has.nil iG 103 W).1 (Has.nil zr 3 W).1 (Has.nil zr 3 W).1) (Has.nil zG 41 W).1 n0 n0 n0,II,II⟩
theorem Wn {g:Prop} (f:g:=by
  clear hge
  cases bp with
  | false=>
   have HQ:=fh hnp
   clear hnp
   go_wp2_with(go_at_call 47;(with_reducible refine(zhi (x:=⟨s,ts,0,sl,sl⟩) (Ty.up _ f0 gG) (Ty.up _ f1 gG) (Ty.up _ f2 gG) (Ty.up _ f3 gG) hsz).mono ?_);rw[HB.out];rintro e w3 ⟨rfl,os3,e3,rfl⟩;have e83:=zj hb.out (fu.of wr os3 e3);obtain⟨a0,a1,a2,a3,a4,a5,a6,af,al⟩:=zK e83;have err3:=zj err (fu.of wr os3 e3);obtain⟨y0,y1,y2,y3,y4,y5,y6,yf,yl⟩:=zK err3)
   have h9:=lO err (G C 0 0) (G C 0 0) (G C 0 0) (G C 0 0) (J Z 0) (J Z 0) (J Z 0)
   generalize (((((((wr.setCell _ _).setCell _ _).setCell _ _).setCell _ _).setCell _ _).setCell _ _).setCell _ _)=Q9 at h9 |-
   obtain⟨r0,r1,r2,r3,r4,r5,r6,_,_⟩:=zK (zj h9.1 (fu.of Q9 os3 e3))
   have hG9:=(h9.2.fy hGr (fun b hb'=>by simp at hb';omega)).more os3 e3
   rw[HQ.out]
   refine Rj (v:=.tuple #[.agg #[G C 0 0,G C 0 0,G C 0 0,G C 0 0,J Z 0,J Z 0,J Z 0],H I]) (by simp[Rv,results35,go_sem,r0,r1,r2,r3,r4,r5,r6]) rfl ⟨C,0,C,0,C,0,C,0,rfl,JL _ _ hG9.size,hG9⟩
  | true=>
   have HQ:=fh hnp
   clear hnp
   go_wp2_with(go_at_call 47;(with_reducible refine(zhi (x:=⟨s,ts,0,sl,sl⟩) (Ty.up _ f0 gG) (Ty.up _ f1 gG) (Ty.up _ f2 gG) (Ty.up _ f3 gG) hsz).mono ?_);rw[HB.out];rintro e w3 ⟨rfl,os3,e3,rfl⟩;have e83:=zj hb.out (fu.of wr os3 e3);obtain⟨a0,a1,a2,a3,a4,a5,a6,af,al⟩:=zK e83;have err3:=zj err (fu.of wr os3 e3);obtain⟨y0,y1,y2,y3,y4,y5,y6,yf,yl⟩:=zK err3)
   have h9:=lO err (G B0 s.fo.length d0) (G B1 s.ft.length d1) (G B2 s.ii.length d2) (G A ts.length c) (J Z 0) (J Z sl) (J Z sl)
   generalize (((((((wr.setCell _ _).setCell _ _).setCell _ _).setCell _ _).setCell _ _).setCell _ _).setCell _ _)=Q9 at h9 |-
   obtain⟨r0,r1,r2,r3,r4,r5,r6,_,_⟩:=zK (zj h9.1 (fu.of Q9 os3 e3))
   have hG9:=(h9.2.fy hGr (fun b hb'=>by simp at hb';omega)).more os3 e3
   rw[HQ.out]
   have hHs9:=(hHsw.fJ h9.2 (fun b hb' hm=>by have:=hls2 b hb';simp at hm;omega)).fy (fu.of Q9 os3 e3)
   have hH9:=(hHr.fJ h9.2 (fun b hb' hm=>by have:=hS.out b hb';simp at hm;omega)).fy (fu.of Q9 os3 e3)
   refine Rj (v:=.tuple #[.agg #[G B0 s.fo.length d0,G B1 s.ft.length d1,G B2 s.ii.length d2,G A ts.length c,J Z 0,J Z sl,J Z sl],H M]) (by simp[Rv,results35,go_sem,r0,r1,r2,r3,r4,r5,r6]) rfl ⟨B0,d0,B1,d1,B2,d2,A,c,rfl,⟨_,yY (x:=⟨s,ts,0,sl,sl⟩) hHs9.1 hH9.1 n0 hsl hsl,?_,?_⟩,hG9⟩
   ·refine RM.2 ⟨hHs9.2,hH9.2,fun a ha b hb' he=>?_⟩
    have h1:=hS.out b hb'
    have h2:=hlt8 a ha
    omega
   ·intro b hb'
    rcases Rr.1 hb' with hb' | hb'
    ·have:=hls2 b hb'
     omega
    ·have:=hS.out b hb'
     omega):g:=f
theorem ztz {sl:Int} (h0:(iG.sl 103).R w w.heap.size [G A0 s.fo.length c0] s.fo)(h1:(zr.sl 3).R w w.heap.size [G A1 s.ft.length c1] s.ft)
  (h2:(zr.sl 3).R w w.heap.size [G A2 s.ii.length c2] s.ii) (hs:jE s<=1099511600000) (ht:fE th) (hsl:fE sl) :
  RD prog 35 #[.agg #[G A0 s.fo.length c0,G A1 s.ft.length c1,G A2 s.ii.length c2],J Z th,J Z sl] w (OJ (zB s th sl) w):=by
 have ao:jE s<=1099511627776:=K9;obtain⟨m,hm⟩:∃ m,oH s=m:=⟨_,rfl⟩
 have HM:=fh hm;have aF:jV m.1<=1200:=by rw[<-hm];exact Xz s
 obtain⟨K,hK⟩:∃ K,rJ th=K:=⟨_,rfl⟩
 have aa:=fh hK;have aD:K<=4:=by rw[<-hK];unfold rJ;split <;> (try split) <;> omega
 clear hm hK;go_enter func35,ntmps35;go_wp2_with(go_at_call 72;(with_reducible refine(zjN (s:=s) (Ty.up _ h0 gG) (Ty.up _ h1 gG) (Ty.up _ h2 gG) ao).mono ?_);rintro e w1 ⟨B0,d0,B1,d1,B2,d2,rfl,ag,a7,e1,rfl⟩);have ah:fu w ((fy ((w.alloc (F #[G A0 s.fo.length c0,G A1 s.ft.length c1,G A2 s.ii.length c2] 28)).alloc (F #[G C 0 0,G C 0 0,G C 0 0,G C 0 0,J Z 0,J Z 0,J Z 0] 34)) a7 e1).alloc (F #[G B0 s.fo.length d0,G B1 s.ft.length d1,G B2 s.ii.length d2,G C 0 0,J Z 0,J Z sl,J Z sl] 34)):=gG;have eb:((fy ((w.alloc (F #[G A0 s.fo.length c0,G A1 s.ft.length c1,G A2 s.ii.length c2] 28)).alloc (F #[G C 0 0,G C 0 0,G C 0 0,G C 0 0,J Z 0,J Z 0,J Z 0] 34)) a7 e1).alloc (F #[G B0 s.fo.length d0,G B1 s.ft.length d1,G B2 s.ii.length d2,G C 0 0,J Z 0,J Z sl,J Z sl] 34)).heap[w.heap.size]?=D (F #[G A0 s.fo.length c0,G A1 s.ft.length c1,G A2 s.ii.length c2] 28 (0,0)):=zj (Re w _) gF;have er:((fy ((w.alloc (F #[G A0 s.fo.length c0,G A1 s.ft.length c1,G A2 s.ii.length c2] 28)).alloc (F #[G C 0 0,G C 0 0,G C 0 0,G C 0 0,J Z 0,J Z 0,J Z 0] 34)) a7 e1).alloc (F #[G B0 s.fo.length d0,G B1 s.ft.length d1,G B2 s.ii.length d2,G C 0 0,J Z 0,J Z sl,J Z sl] 34)).heap[w.heap.size+1]?=D (F #[G C 0 0,G C 0 0,G C 0 0,G C 0 0,J Z 0,J Z 0,J Z 0] 34 (0,0)):=zj (show ((w.alloc (F #[G A0 s.fo.length c0,G A1 s.ft.length c1,G A2 s.ii.length c2] 28)).alloc (F #[G C 0 0,G C 0 0,G C 0 0,G C 0 0,J Z 0,J Z 0,J Z 0] 34)).heap[w.heap.size+1]?=_ from by have h:=Re (w.alloc (F #[G A0 s.fo.length c0,G A1 s.ft.length c1,G A2 s.ii.length c2] 28)) (F #[G C 0 0,G C 0 0,G C 0 0,G C 0 0,J Z 0,J Z 0,J Z 0] 34);rw[Rz] at h;exact h) gF
 have e8:((fy ((w.alloc (F #[G A0 s.fo.length c0,G A1 s.ft.length c1,G A2 s.ii.length c2] 28)).alloc (F #[G C 0 0,G C 0 0,G C 0 0,G C 0 0,J Z 0,J Z 0,J Z 0] 34)) a7 e1).alloc (F #[G B0 s.fo.length d0,G B1 s.ft.length d1,G B2 s.ii.length d2,G C 0 0,J Z 0,J Z sl,J Z sl] 34)).heap[w.heap.size+1+1+a7.size]?=D (F #[G B0 s.fo.length d0,G B1 s.ft.length d1,G B2 s.ii.length d2,G C 0 0,J Z 0,J Z sl,J Z sl] 34 (0,0)):=by
  have h:=Re (fy ((w.alloc (F #[G A0 s.fo.length c0,G A1 s.ft.length c1,G A2 s.ii.length c2] 28)).alloc (F #[G C 0 0,G C 0 0,G C 0 0,G C 0 0,J Z 0,J Z 0,J Z 0] 34)) a7 e1) (F #[G B0 s.fo.length d0,G B1 s.ft.length d1,G B2 s.ii.length d2,G C 0 0,J Z 0,J Z sl,J Z sl] 34);rw[kH,Rz,Rz] at h;exact h
 obtain⟨SS,a8,ak⟩:=fU.has ag;have ai:=a8.fy (W':=((fy ((w.alloc (F #[G A0 s.fo.length c0,G A1 s.ft.length c1,G A2 s.ii.length c2] 28)).alloc (F #[G C 0 0,G C 0 0,G C 0 0,G C 0 0,J Z 0,J Z 0,J Z 0] 34)) a7 e1).alloc (F #[G B0 s.fo.length d0,G B1 s.ft.length d1,G B2 s.ii.length d2,G C 0 0,J Z 0,J Z sl,J Z sl] 34))) gF;have hlt8:∀ b∈SS,b<w.heap.size+1+1+a7.size:=fun b hb=>by have h:=a8.lt b hb;rw[kH,Rz,Rz] at h;exact h
 have hls2:∀ b∈SS,w.heap.size+1<b:=fun b hb=>by have h:=ak b hb;rw[Rz,Rz] at h;omega
 clear ak a8 ag;obtain⟨g,hg⟩:∃ g,w.heap.size=g:=⟨_,rfl⟩
 rw[hg] at eb er e8 hlt8 hls2 |-;obtain⟨g8,ax⟩:∃ g8,g+1+1+a7.size=g8:=⟨_,rfl⟩
 rw[ax] at e8 hlt8 |-;generalize ((fy ((w.alloc _).alloc _) a7 e1).alloc _)=wc at ah eb er e8 ai |-;have ac:g≠g8:=K9;have ad:g+1≠g8:=K9;have aE:=(blt e8)
 go_loopw [9,10,11] (fun a b cc wr=>∃(k:Nat) (A:X RJ) (c:Nat) (S:Q Nat),a=J Z k/\k<=K/\Hid (fx [g8] wc wr)/\Hid (wr.heap[g8]?=D (F #[G B0 s.fo.length d0,G B1 s.ft.length d1,G B2 s.ii.length d2,G A k c,J Z 0,J Z sl,J Z sl] 34 (0,0)))/\Hid (Has (zG.sl 41) wr [G A k c] (RN k m.1) S)/\Hid (∀ b∈S,wc.heap.size<=b)) (fun a _ _ _=>K-(RS a).toNat)
 case atStart=>exact⟨0,C,0,[],rfl,Rl _,fh (fx.refl _ _),fh e8,fh (Has.nil _ _ _),fh II⟩
 case round=>
  obtain⟨k,A,c,S,rfl,ay,ho,hb,hH,hS⟩:=hrel;have hGr:fu w wr:=ho.out.fy ah (fun b hb=>by simp at hb;omega);have aI:wc.heap.size<=wr.heap.size:=ho.out.size;have ap:=(ho.out.block g (blt eb) (by simpa using ac)).trans eb;have err:=(ho.out.block (g+1) (blt er) (by simpa using ad)).trans er;obtain⟨q0,q1,q2,_,ql⟩:=iS ap;obtain⟨p0,p1,p2,p3,p4,p5,p6,pf,pl⟩:=zK hb.out;obtain⟨z0,z1,z2,z3,z4,z5,z6,zf,zl⟩:=zK err;by_cases hlt:k<K
  ·have hr:=ND (show k<rJ th by rw[aa.out];exact hlt)
   have r0:decide ((k:Int)<th)=M:=Rp hr.1;have r1:decide ((k:Int)<=3)=M:=Rp hr.2;have aA:=Ty.up _ h0 hGr;have aB:=Ty.up _ h1 hGr;have aC:=Ty.up _ h2 hGr;have aG:=hr.1;have aH:=hr.2
   go_wp2_with(first
    | (go_at_call 76;(with_reducible refine(zxn (s:=s) (Ty.up _ aA gG) (Ty.up _ aB gG) (Ty.up _ aC gG) ao).mono ?_);rw[HM.out];rintro e w2 ⟨Am,cm,Ao,co,rfl,aq,aJ,e2,rfl⟩)
    | (at_builtin;obtain⟨Sy,au,am⟩:=fU.has aq;refine zJ (L:=k+1) rfl (.tmp 32) (.tmp 34) Gp (hH.out.fy gF) (au.fy gF) (fun b hb' hm=>by have h1:=am b hm;have h2:=hH.out.lt b hb';omega) rfl rfl rfl (by intro j u hu;simpa[go_sem] using hu) rfl K9 K9 ?_;intro A7 c7 W7 S7 an ar av;have e7:=yu hb.out gF an (fun hm=>by have:=hS.out g8 hm;omega);obtain⟨a0,a1,a2,a3,a4,a5,a6,af,al⟩:=zK e7;have az:=AM ho.out gF an hS.out 3 (G A7 (k+1) c7);have aw:=jd (i:=3) (v:=G A7 (k+1) c7) e7 rfl;have aj:∀ b∈S7,wc.heap.size<=b:=fun b hb'=>(by rcases av b hb' with h | h | h;(exact hS.out b h);(have:=am b h;omega);(simp at h;omega));have hH9:=ar.fJ ((fx.refl [g8] W7).setCell (p:=⟨g8,3,C⟩) II (G A7 (k+1) c7)) (fun b hb' hm=>by have:=aj b hb';simp at hm;omega);rw[<-List.replicate_succ'] at hH9))
   go_roundw;exact⟨k+1,A7,c7,S7,II,K9,fh az,fh aw,fh hH9,fh aj⟩;exact gM
  ·obtain rfl:k=K:=K9
   obtain⟨ts,a9⟩:∃ ts,RN k m.1=ts:=⟨_,rfl⟩
   have ae:k=ts.length:=by rw[<-a9,Sj]
   have hP:pR s k sl=⟨s,ts,0,sl,sl⟩:=by unfold pR;rw[HM.out,a9]
   have hsz:zN ⟨s,ts,0,sl,sl⟩<=1099511627776:=by rw[<-hP];have:=Hg s k sl;omega
   have hHr:=hH.out;rw[a9] at hHr;have hge:=NC (th:=th);rw[aa.out] at hge;have hnp:=JS s th sl;rw[aa.out,hP] at hnp;have n0:fE 0:=⟨qo,qo⟩
   have hHsw:=ai.fJ ho.out (fun b hb' hm=>by have:=hlt8 b hb';simp at hm;omega);obtain⟨f0,f1,f2⟩:=ze hHsw.read;have f3:=hHr.read;clear a9 hP hlt ay;subst ae;obtain⟨bp,ab⟩:∃ b,jq ⟨s,ts,0,sl,sl⟩=b:=⟨_,rfl⟩
   have HB:=fh ab;rw[ab] at hnp;clear ab;by_cases q:(ts.length:Int)<th
   ·have r0:decide ((ts.length:Int)<th)=M:=Rp q
    have q3:¬ ((ts.length:Int)<=3):=fun h=>hge ⟨q,h⟩;have r1:decide ((ts.length:Int)<=3)=I:=Rk q3;exact Wn
   ·have r0:decide ((ts.length:Int)<th)=I:=Rk q
    exact Wn
theorem LL (s:gk)(th sl:Int):zN (zB s th sl).1<=jE s+3603:=by
 unfold zB;split
 ·rename_i h
  have h1:=zu.1 h.1;have h2:=Hg s th.toNat sl;show zN (pR s th.toNat sl)<=_;omega
 ·show zN xD<=_
  have h0:zN xD=0:=rfl;omega
structure J1 {α:Type}(T:Ty α)(Y W:U)(cs:Q Value)(x:α)(S:Q Nat)(go:Nat)(o:Obj):Prop where
 hx:Has T W cs x S
 la:∀ b∈S,Y.heap.size<=b
 hg:fu Y W
 ho:W.heap[go]?=D o
 nt:go∉S
section
variable {α:Type} {T:Ty α} {Y W W':U} {cs:Q Value} {x:α} {S:Q Nat} {go:Nat} {o:Obj}
theorem J1.fy (h:J1 T Y W cs x S go o)(hg:fu W W'):J1 T Y W' cs x S go o:=⟨h.hx.fy hg,h.la,h.hg.trans hg,zj h.ho hg,h.nt⟩
theorem J1.cell {p:RJ}{v:Value}(h:J1 T Y W cs x S go o)(hc:Y.cell? p=D v):W.cell? p=D v:=pg h.hg hc
theorem J1.call {x':α} {cs':Q Value} {os:Array Obj} {d:Nat} (h:J1 T Y W cs x S go o)(hF:fU T W (Go.Proofs.YthgbglbaemelhaaGreat.fy W os d) cs' x'):∃ S',J1 T Y (Go.Proofs.YthgbglbaemelhaaGreat.fy W os d) cs' x' S' go o:=by
 obtain⟨S',h1,h2⟩:=fU.has hF;have hl:=(blt h.ho)
 have:=h.hg.size;exact⟨S',h1,fun b hb=>by have:=h2 b hb;omega,h.hg.more os d,zj h.ho (fu.of W os d),fun hm=>by have:=h2 go hm;omega⟩
theorem J1.alloc {cs':Array Value}{t:R5}(h:J1 T Y W cs x S go o):J1 T Y (W.alloc (F cs' t)) cs x S W.heap.size (F cs' t (0,0)):=
 ⟨h.hx.fy ((fu.refl _).alloc _),h.la,h.hg.alloc _,Re _ _,fun hm=>by have:=h.hx.lt _ hm;omega⟩
theorem J1.store {o':Obj} (h:J1 T Y W cs x S go o)(hon:fx [go] W W')(ho':W'.heap[go]?=D o')(hgo:Y.heap.size<=go):J1 T Y W' cs x S go o':=
 ⟨h.hx.fJ hon (fun b hb hm=>h.nt (by simp at hm;exact hm ▸ hb)),h.la,hon.fy h.hg (fun b hb=>by simp at hb;omega),ho',h.nt⟩
end
theorem J1.start {go:Nat} {o:Obj} (ho:Y.heap[go]?=D o):J1 kY Y Y [G C 0 0,G C 0 0,G C 0 0] ⟨[],[],[]⟩ [] go o:=
 ⟨⟨xY (x:=⟨[],[],[]⟩) (Has.nil iG 103 Y).1 (Has.nil zr 3 Y).1 (Has.nil zr 3 Y).1,II⟩,II,fu.refl _,ho,II⟩
theorem Xe {g:Prop} (f:g:=by
  obtain⟨o0,o1,o2,o3,o4,o5,o6,of,ol⟩:=zK HJ.ho
  refine fA.last Fs rfl Fs (fun K hK=>?_)
  go_simp
  refine hK.out _ _ ?_
  clear hK
  try simp only[lay]
  have h2:=lO HJ.ho (G B0 x.fk.fo.length d0) (G B1 x.fk.ft.length d1) (G B2 x.fk.ii.length d2) (G C 0 0) (J Z x.fR) (J Z x.EQ) (J Z x.ws)
  have HJ:=HJ.store h2.2 h2.1 hgo
  go_wp2_with(fail)
  go_meet
  exact⟨_,B0,B1,B2,d0,d1,d2,SS,rfl,HJ,hgo⟩):g:=f
theorem zfG {x:fO} {A3:X RJ} {c3:Nat} (h0:(iG.sl 103).R w w.heap.size [G A0 x.fk.fo.length c0] x.fk.fo)(h1:(zr.sl 3).R w w.heap.size [G A1 x.fk.ft.length c1] x.fk.ft)
  (h2:(zr.sl 3).R w w.heap.size [G A2 x.fk.ii.length c2] x.fk.ii) (h3:(zG.sl 41).R w w.heap.size [G A3 x.fq.length c3] x.fq) (ht:fE x.fR) (hle:fE x.EQ) (hsl:fE x.ws) (hs:zN x<=1099511627776) :
  RD prog 37 #[.agg #[G A0 x.fk.fo.length c0,G A1 x.fk.ft.length c1,G A2 x.fk.ii.length c2,G A3 x.fq.length c3,J Z x.fR,J Z x.EQ,J Z x.ws]] w (Mo x w):=by
 have aD:jE x.fk<=1099511627776:=by unfold zN at hs;omega
 have aN:lI jV x.fq<=1099511627776:=by unfold zN at hs;omega
 go_enter func37,ntmps37;go_upto_region 1 with(fail);have ae:fu w ((w.alloc (F #[G A0 x.fk.fo.length c0,G A1 x.fk.ft.length c1,G A2 x.fk.ii.length c2,G A3 x.fq.length c3,J Z x.fR,J Z x.EQ,J Z x.ws] 34)).alloc (F #[G C 0 0,G C 0 0,G C 0 0,G C 0 0,J Z 0,J Z 0,J Z 0] 34)):=gG;have eb:((w.alloc (F #[G A0 x.fk.fo.length c0,G A1 x.fk.ft.length c1,G A2 x.fk.ii.length c2,G A3 x.fq.length c3,J Z x.fR,J Z x.EQ,J Z x.ws] 34)).alloc (F #[G C 0 0,G C 0 0,G C 0 0,G C 0 0,J Z 0,J Z 0,J Z 0] 34)).heap[w.heap.size]?=D (F #[G A0 x.fk.fo.length c0,G A1 x.fk.ft.length c1,G A2 x.fk.ii.length c2,G A3 x.fq.length c3,J Z x.fR,J Z x.EQ,J Z x.ws] 34 (0,0)):=zj (Re w _) gF;have er:((w.alloc (F #[G A0 x.fk.fo.length c0,G A1 x.fk.ft.length c1,G A2 x.fk.ii.length c2,G A3 x.fq.length c3,J Z x.fR,J Z x.EQ,J Z x.ws] 34)).alloc (F #[G C 0 0,G C 0 0,G C 0 0,G C 0 0,J Z 0,J Z 0,J Z 0] 34)).heap[w.heap.size+1]?=D (F #[G C 0 0,G C 0 0,G C 0 0,G C 0 0,J Z 0,J Z 0,J Z 0] 34 (0,0)):=by have h:=Re (w.alloc (F #[G A0 x.fk.fo.length c0,G A1 x.fk.ft.length c1,G A2 x.fk.ii.length c2,G A3 x.fq.length c3,J Z x.fR,J Z x.EQ,J Z x.ws] 34)) (F #[G C 0 0,G C 0 0,G C 0 0,G C 0 0,J Z 0,J Z 0,J Z 0] 34);rw[Rz] at h;exact h
 have am:=Ty.up _ h0 ae;have an:=Ty.up _ h1 ae;have ao:=Ty.up _ h2 ae;have ay:=Ty.up _ h3 ae;obtain⟨g,hg⟩:∃ g,w.heap.size=g:=⟨_,rfl⟩
 have aI:g+1<((w.alloc (F #[G A0 x.fk.fo.length c0,G A1 x.fk.ft.length c1,G A2 x.fk.ii.length c2,G A3 x.fq.length c3,J Z x.fR,J Z x.EQ,J Z x.ws] 34)).alloc (F #[G C 0 0,G C 0 0,G C 0 0,G C 0 0,J Z 0,J Z 0,J Z 0] 34)).heap.size:=by rw[Rz,Rz];omega
 rw[hg] at eb er |-;generalize ((w.alloc _).alloc _)=Y at ae eb er am an ao ay aI |-;obtain⟨y0,y1,y2,y3,y4,y5,y6,_,yl⟩:=zK eb;clear h0 h1 h2 h3;go_cut [3] from 3 to 15 (fun v3 wx=>∃(g8:Nat) (B0 B1 B2:X RJ) (d0 d1 d2:Nat) (SS:Q Nat),v3=.pointer (D ⟨g8,0,C⟩)/\J1 kY Y wx [G B0 x.fk.fo.length d0,G B1 x.fk.ft.length d1,G B2 x.fk.ii.length d2] x.fk SS g8 (F #[G B0 x.fk.fo.length d0,G B1 x.fk.ft.length d1,G B2 x.fk.ii.length d2,G C 0 0,J Z x.fR,J Z x.EQ,J Z x.ws] 34 (0,0))/\Y.heap.size<=g8)
 case first=>
  refine zX (fun w'=>Rb w' ⟨g,0,C⟩=D (G A0 x.fk.fo.length c0)/\Rb w' ⟨g,1,C⟩=D (G A1 x.fk.ft.length c1)/\Rb w' ⟨g,2,C⟩=D (G A2 x.fk.ii.length c2)/\Rb w' ⟨g,4,C⟩=D (J Z x.fR)/\Rb w' ⟨g,5,C⟩=D (J Z x.EQ)/\Rb w' ⟨g,6,C⟩=D (J Z x.ws)) 11 Fs (Rf (zc y0) (Rf (zc y1) (Rf (zc y2) (Rf (zc y4) (Rf (zc y5) (zc y6)))))) (fun a7=>?_);have HJ:=(J1.start er).fy ((fu.refl Y).drew);generalize hYd:Y.drew=Wx at HJ a7 |-;clear hYd;refine .tq 0 [11] a7 ?_;refine .tq 1 [11] a7 ?_;refine .tq 3 [11] a7 ?_;refine .tq 4 [11] a7 ?_;refine .tq 5 [11] a7 ?_;refine .tq 6 [11] a7 ?_;refine .tq 7 [11] a7 ?_;refine .tq 8 [11] a7 ?_;refine fA.py (i:=2) (j:=10) Fs rfl rfl (fun K hK=>?_) (fun K hK=>?_)
  ·go_simp
   go_at_call 78
   with_reducible refine(zjM (s:=x.fk) (Ty.up _ am HJ.hg) (Ty.up _ an HJ.hg) (Ty.up _ ao HJ.hg) aD).mono ?_
   rintro e w2 ⟨B0,d0,B1,d1,B2,d2,rfl,ak,aq,e1,rfl⟩;obtain⟨SS,HJ⟩:=HJ.call ak;have a7:=Rf (HJ.cell y0) (Rf (HJ.cell y1) (Rf (HJ.cell y2) (Rf (HJ.cell y4) (Rf (HJ.cell y5) (HJ.cell y6)))));refine hK.out _ _ a7 ?_;clear hK;generalize fy Wx aq e1=Wx at HJ a7 |-
   try simp only[lay]
   refine .tq 9 [11] a7 ?_;refine fA.gL (i:=10) Fs rfl (fun K hK=>?_)
   ·go_simp
    have hgo:=HJ.hg.size;have HJ:=HJ.alloc (cs':=#[G C 0 0,G C 0 0,G C 0 0,G C 0 0,J Z 0,J Z 0,J Z 0]) (t:=34);have a7:=Rf (HJ.cell y0) (Rf (HJ.cell y1) (Rf (HJ.cell y2) (Rf (HJ.cell y4) (Rf (HJ.cell y5) (HJ.cell y6)))));refine hK.out _ _ a7 ?_;clear hK;generalize Su _ (F #[G C 0 0,G C 0 0,G C 0 0,G C 0 0,J Z 0,J Z 0,J Z 0] 34)=Wx at HJ a7 |-
    try simp only[lay]
    exact Xe
  ·go_simp
   have hgo:=HJ.hg.size;have HJ:=HJ.alloc (cs':=#[G C 0 0,G C 0 0,G C 0 0,G C 0 0,J Z 0,J Z 0,J Z 0]) (t:=34);have a7:=Rf (HJ.cell y0) (Rf (HJ.cell y1) (Rf (HJ.cell y2) (Rf (HJ.cell y4) (Rf (HJ.cell y5) (HJ.cell y6)))));refine hK.out _ _ a7 ?_;clear hK;generalize Su _ (F #[G C 0 0,G C 0 0,G C 0 0,G C 0 0,J Z 0,J Z 0,J Z 0] 34)=Wx at HJ a7 |-
   try simp only[lay]
   refine fA.gL (i:=2) Fs rfl (fun K hK=>?_)
   ·go_simp
    go_at_call 78
    with_reducible refine(zjM (s:=x.fk) (Ty.up _ am HJ.hg) (Ty.up _ an HJ.hg) (Ty.up _ ao HJ.hg) aD).mono ?_
    rintro e w2 ⟨B0,d0,B1,d1,B2,d2,rfl,ak,aq,e1,rfl⟩;obtain⟨SS,HJ⟩:=HJ.call ak;have a7:=Rf (HJ.cell y0) (Rf (HJ.cell y1) (Rf (HJ.cell y2) (Rf (HJ.cell y4) (Rf (HJ.cell y5) (HJ.cell y6)))));refine hK.out _ _ a7 ?_;clear hK;generalize fy Wx aq e1=Wx at HJ a7 |-
    try simp only[lay]
    refine .tq 9 [11] a7 ?_;exact Xe
 case rest=>
  obtain⟨g8,B0,B1,B2,d0,d1,d2,SS,rfl,HJ,hgo⟩:=hcut;have aL:g≠g8:=K9;have aV:=(blt HJ.ho)
  have aS:=HJ.cell y3;go_wp2_with(fail);go_loopw [19] (fun a wr=>∃(k:Nat) (A:X RJ) (c:Nat) (S:Q Nat),a=J Z k/\k<=x.fq.length/\Hid (fx [g8] wc wr)/\Hid (wr.heap[g8]?=D (F #[G B0 x.fk.fo.length d0,G B1 x.fk.ft.length d1,G B2 x.fk.ii.length d2,G A k c,J Z x.fR,J Z x.EQ,J Z x.ws] 34 (0,0)))/\Hid (Has (zG.sl 41) wr [G A k c] (x.fq.take k) S)/\Hid (∀ b∈S,wc.heap.size<=b)) (fun a _=>x.fq.length-(RS a).toNat)
  case atStart=>exact⟨0,C,0,[],rfl,Rl _,fh (fx.refl _ _),fh HJ.ho,fh (Has.nil _ _ _),fh II⟩
  case round=>
   obtain⟨k,A,c,S,rfl,hk,ho,hb,hH,hS⟩:=hrel;have ab:fu Y wr:=ho.out.fy HJ.hg (fun b hb=>by simp at hb;omega);have aX:wc.heap.size<=wr.heap.size:=ho.out.size;have ar:=zj er ab;have q3:=pg ab y3;obtain⟨o0,o1,o2,o3,o4,o5,o6,of,ol⟩:=zK hb.out;obtain⟨z0,z1,z2,z3,z4,z5,z6,zf,zl⟩:=zK ar;by_cases hlt:k<x.fq.length
   ·obtain⟨gI,aY,y,Aa,ca,Ab,cb,rfl,aU,aE,m0,m1,m2,m3,m4,m5,m6,p0,p1,p2,p3,p4,p5,p6⟩:=wA ay hlt
    have n0:=pg ab m0;have n1:=pg ab m1;have n2:=pg ab m2;have n3:=pg ab m3;have n4:=pg ab m4;have n5:=pg ab m5;have n6:=pg ab m6;have r3:=Ty.up _ p3 ab;have r4:=Ty.up _ p4 ab;have aM:(k:Int)<(x.fq.length:Int):=K9;have aW:x.fq.length<=1099511627776:=by unfold lI at aN;omega
    have aP:jV y<=1099511627776:=by have h1:=tS jV aE;omega
    clear m0 m1 m2 m3 m4 m5 m6;go_upto_region 5 with(fail);have ag:fu wr (wr.alloc (F #[J Z y.Pc,J Z y.Sp,J Z y.Fp,G Aa y.pm.length ca,G Ab y.If.length cb,J Z y.rc,J Z y.Value] 41)):=gG;have eV:(wr.alloc (F #[J Z y.Pc,J Z y.Sp,J Z y.Fp,G Aa y.pm.length ca,G Ab y.If.length cb,J Z y.rc,J Z y.Value] 41)).heap[wr.heap.size]?=D (F #[J Z y.Pc,J Z y.Sp,J Z y.Fp,G Aa y.pm.length ca,G Ab y.If.length cb,J Z y.rc,J Z y.Value] 41 (0,0)):=Re _ _;obtain⟨b5,aJ⟩:∃ b5,wr.heap.size=b5:=⟨_,rfl⟩
    rw[aJ] at eV |-;generalize wr.alloc _=Q7 at ag eV |-;have aK:=zj hb.out ag;have aG:=hH.out.fy ag;have aQ:=Ty.up _ r3 ag;have aR:=Ty.up _ r4 ag;obtain⟨v0,v1,v2,v3,v4,v5,v6,_,vl⟩:=zK eV;clear o0 o1 o2 o3 o4 o5 o6 of ol;obtain⟨o0,o1,o2,o3,o4,o5,o6,of,ol⟩:=zK aK;refine zX (fun w'=>Rb w' ⟨g8,3,C⟩=D (G A k c)/\Rb w' ⟨b5,0,C⟩=D (J Z y.Pc)/\Rb w' ⟨b5,1,C⟩=D (J Z y.Sp)/\Rb w' ⟨b5,2,C⟩=D (J Z y.Fp)/\Rb w' ⟨b5,3,C⟩=D (G Aa y.pm.length ca)/\Rb w' ⟨b5,4,C⟩=D (G Ab y.If.length cb)/\Rb w' ⟨b5,5,C⟩=D (J Z y.rc)/\Rb w' ⟨b5,6,C⟩=D (J Z y.Value)) 7 Fs (Rf (zc o3) (Rf (zc v0) (Rf (zc v1) (Rf (zc v2) (Rf (zc v3) (Rf (zc v4) (Rf (zc v5) (zc v6)))))))) (fun a7=>?_);refine .tq 0 [7] a7 ?_;refine .tq 1 [7] a7 ?_;refine .tq 2 [7] a7 ?_;refine fA.gL (i:=3) Fs rfl (fun K hK=>?_)
    ·go_simp
     go_at_call 79
     with_reducible refine(zhJ (x:=y) p0 p1 p2 (Ty.up _ aQ gG) (Ty.up _ aR gG) p5 p6 aP).mono ?_
     rintro e w2 ⟨Ba,ea,Bb,ad,rfl,aF,a9,e2,rfl⟩;have a7:=Rf (zd (zc o3) a9 e2) (Rf (zd (zc v0) a9 e2) (Rf (zd (zc v1) a9 e2) (Rf (zd (zc v2) a9 e2) (Rf (zd (zc v3) a9 e2) (Rf (zd (zc v4) a9 e2) (Rf (zd (zc v5) a9 e2) (zd (zc v6) a9 e2)))))));refine hK.out _ _ a7 ?_;clear hK
     try simp only[lay]
     refine fA.gL (i:=4) Fs rfl (fun K hK=>?_)
     ·go_simp
      have a7:=Rf (zo (zd (zc o3) a9 e2) (F #[J Z y.Pc,J Z y.Sp,J Z y.Fp,G Ba y.pm.length ea,G Bb y.If.length ad,J Z y.rc,J Z y.Value] 41)) (Rf (zo (zd (zc v0) a9 e2) (F #[J Z y.Pc,J Z y.Sp,J Z y.Fp,G Ba y.pm.length ea,G Bb y.If.length ad,J Z y.rc,J Z y.Value] 41)) (Rf (zo (zd (zc v1) a9 e2) (F #[J Z y.Pc,J Z y.Sp,J Z y.Fp,G Ba y.pm.length ea,G Bb y.If.length ad,J Z y.rc,J Z y.Value] 41)) (Rf (zo (zd (zc v2) a9 e2) (F #[J Z y.Pc,J Z y.Sp,J Z y.Fp,G Ba y.pm.length ea,G Bb y.If.length ad,J Z y.rc,J Z y.Value] 41)) (Rf (zo (zd (zc v3) a9 e2) (F #[J Z y.Pc,J Z y.Sp,J Z y.Fp,G Ba y.pm.length ea,G Bb y.If.length ad,J Z y.rc,J Z y.Value] 41)) (Rf (zo (zd (zc v4) a9 e2) (F #[J Z y.Pc,J Z y.Sp,J Z y.Fp,G Ba y.pm.length ea,G Bb y.If.length ad,J Z y.rc,J Z y.Value] 41)) (Rf (zo (zd (zc v5) a9 e2) (F #[J Z y.Pc,J Z y.Sp,J Z y.Fp,G Ba y.pm.length ea,G Bb y.If.length ad,J Z y.rc,J Z y.Value] 41)) (zo (zd (zc v6) a9 e2) (F #[J Z y.Pc,J Z y.Sp,J Z y.Fp,G Ba y.pm.length ea,G Bb y.If.length ad,J Z y.rc,J Z y.Value] 41))))))));refine hK.out _ _ a7 ?_;clear hK
      try simp only[lay]
      refine fA.gL (i:=5) Fs rfl (fun K hK=>?_)
      ·obtain⟨Sy,aH,aB⟩:=fU.has aF
       have ap:∀ b∈S,b∉Sy:=fun b a8 hm=>by have h1:Q7.heap.size<=b:=aB b hm;have h2:=aG.lt b a8;omega
       have ah:fu wr ((fy Q7 a9 e2).alloc (F #[J Z y.Pc,J Z y.Sp,J Z y.Fp,G Ba y.pm.length ea,G Bb y.If.length ad,J Z y.rc,J Z y.Value] 41)):=(ag.trans (fu.of Q7 a9 e2)).alloc _;have aa:b5∉S:=fun hm=>by have:=hH.out.lt b5 hm;omega
       refine wU (L:=k+1) rfl (.tmp 24) (.tmp 27) Gp (hH.out.fy ah) (aH.fy gF) ap rfl rfl rfl (by intro j u hu;simpa[go_sem] using hu) rfl K9 K9 ?_;intro A7 c7 W7 S7 ac au aw;have az:∀ i,i<wc.heap.size->i∉S:=fun i hi hm=>by have:=hS.out i hm;omega
       have e7:=yu hb.out ah ac (az _ K9);have a7:=Rf (zC o3 gF ac (az _ K9)) (Rf (zC v0 gF ac aa) (Rf (zC v1 gF ac aa) (Rf (zC v2 gF ac aa) (Rf (zC v3 gF ac aa) (Rf (zC v4 gF ac aa) (Rf (zC v5 gF ac aa) (zC v6 gF ac aa)))))))
       have aA:∀ b∈S7,wc.heap.size<=b:=fun b a8=>by
        have:=ag.size;rcases aw b a8 with h | h | h
        ·exact hS.out b h
        ·have h8:Q7.heap.size<=b:=aB b h
         omega
        ·have:=ah.size;omega
       have aC:=AM ho.out ah ac hS.out 3 (G A7 (k+1) c7);have ax:=jd (i:=3) (v:=G A7 (k+1) c7) e7 rfl;have ai:=au.fJ ((fx.refl [g8] W7).setCell (p:=⟨g8,3,C⟩) II (G A7 (k+1) c7)) (fun b a8 hm=>by have:=aA b a8;simp at hm;omega);refine hK.out _ _ a7 ?_;clear hK
       try simp only[lay]
       refine .tq 6 [7] a7 ?_;obtain⟨a0,a1,a2,a3,a4,a5,a6,af,al⟩:=zK e7;refine fA.last Fs rfl Fs (fun K hK=>?_);go_simp;refine hK.out _ _ ?_;clear hK
       try simp only[lay]
       generalize W7.setCell _ _=Q9 at aC ax ai |-;clear a7 ac au aw e7 hb hH ho;have aO:x.fq.take k++[y]=x.fq.take (k+1):=by rw[R8,aE];rfl
       rw[aO] at ai;go_wp2_with(fail);go_roundw;exact⟨k+1,A7,c7,S7,II,K9,fh aC,fh ax,fh ai,fh aA⟩;exact gM
   ·obtain rfl:k=x.fq.length:=K9
    have aM:¬ (x.fq.length:Int)<(x.fq.length:Int):=K9;have av:=hH.out;rw[SC] at av;go_wp2_with(fail);have h9:=lO ar (G B0 x.fk.fo.length d0) (G B1 x.fk.ft.length d1) (G B2 x.fk.ii.length d2) (G A x.fq.length c) (J Z x.fR) (J Z x.EQ) (J Z x.ws);obtain⟨r0,r1,r2,r3,r4,r5,r6,_,_⟩:=zK h9.1;have aT:w.heap.size<=Y.heap.size:=ae.size;have ah:=h9.2.fy (ae.trans ab) (fun b a8=>by simp at a8;omega);have aj:=(HJ.hx.fJ ho.out (fun b a8 hm=>by simp at hm;exact HJ.nt (hm ▸ a8))).fJ h9.2 (fun b a8 hm=>by have:=HJ.la b a8;simp at hm;omega);have ai:=av.fJ h9.2 (fun b a8 hm=>by have:=hS.out b a8;simp at hm;omega);refine Rj (v:=.agg #[G B0 x.fk.fo.length d0,G B1 x.fk.ft.length d1,G B2 x.fk.ii.length d2,G A x.fq.length c,J Z x.fR,J Z x.EQ,J Z x.ws]) (by simp[Rv,results37,go_sem,r0,r1,r2,r3,r4,r5,r6]) rfl ⟨B0,d0,B1,d1,B2,d2,A,c,rfl,⟨_,yY aj.1 ai.1 ht hle hsl,?_,?_⟩,ah⟩
    ·refine RM.2 ⟨aj.2,ai.2,fun a ha b a8 he=>?_⟩
     have h1:=hS.out b a8;have h2:=HJ.hx.lt a ha;omega
    ·intro b a8
     rcases Rr.1 a8 with a8 | a8
     ·have:=HJ.la b a8
      omega
     ·have:=hS.out b a8
      omega
end Go.Proofs.YthgbglbaemelhaaGreat
