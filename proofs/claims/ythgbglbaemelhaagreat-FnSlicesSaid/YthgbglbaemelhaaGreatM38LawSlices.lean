/-
  PART.
-/
import Derived.Test.YthgbglbaemelhaaGreatM8LawSlices
import Derived.Test.YthgbglbaemelhaaGreatM19LawSlices
set_option linter.unusedVariables false
set_option linter.unusedSimpArgs false
set_option maxRecDepth 100000
set_option maxHeartbeats 8000000
namespace Go.Proofs.YthgbglbaemelhaaGreat
open Value renaming slice->G,int->J,string->V
open IntKind renaming i64->C
open Option renaming none->D,some->Z
open Obj renaming cells->F
open Bool renaming false->I,true->M
open Go renaming World->U,results->Rd,Calls->Rh,Addr->Ri,yielded->Su,undef->TE
open World renaming cell?->QL,alloc->RR
open Region renaming wanted->Rx,ready->RL,noSelect->Tn,Mode->Ts,free->Ui
open RowKit renaming intOf->Ry
open List renaming nil_append->RC
open Tryz
open Go.RowKit
variable {A0 A1 A2:X Ri}{S:Q Nat}{a b w:U}{c0 c1 c2:Nat}{s:gv}
theorem zhu {x:fy} (p0:fD x.Pc)(p1:fD x.Sp)(p2:fD x.Fp)(h3:(zr.sl 3).R w w.heap.size [G A0 x.Stack.length c0] x.Stack)(h4:(zr.sl 3).R w w.heap.size [G A1 x.Out.length c1] x.Out)(p5:fD x.State)(p6:fD x.Value)(hs:lC x<=1099511627776) :
  Rh prog 79 #[.agg #[J C x.Pc,J C x.Sp,J C x.Fp,G A0 x.Stack.length c0,G A1 x.Out.length c1,J C x.State,J C x.Value]] w (KQ x w):=by
 unfold lC at hs;go_enter func79,ntmps79
 go_wp2_with(first
  | (at_builtin;refine Dx rfl (.tmp 3) (.tmp 5) mg zD (xK (ft.refl _) (by simp)) ((ft.refl _).alloc _) (Ty.up _ h3 gG) rfl rfl rfl (Rk _).symm (by omega) (by omega) ?_;intro B0 d0 os d hF)
  | (at_builtin;refine Dx rfl (.tmp 8) (.tmp 10) mg zD (xK (ft.refl _) (by simp)) ((ft.refl _).alloc _) (Ty.up _ h4 gG) rfl rfl rfl (Rk _).symm (by omega) (by omega) ?_;intro B1 d1 a1 d2 a0))
 refine QU (v:=.agg #[J C x.Pc,J C x.Sp,J C x.Fp,G B0 x.Stack.length d0,G B1 x.Out.length d1,J C x.State,J C x.Value]) (by simp[Rd,results79,go_sem]) rfl ⟨B0,d0,B1,d1,rfl,?_,gG⟩;exact Bs p0 p1 p2 (hF.nH.same (by repeat (first | with_reducible exact hU.refl _ _ _ | ((with_reducible refine hU.base ?_ ?_) <;> (simp <;> omega)) | ((with_reducible refine hU.more ?_ ?_ _ _);rotate_left;simp <;> omega) | ((with_reducible refine hU.alloc ?_ ?_ _);rotate_left;simp <;> omega) | with_reducible apply hU.drew | with_reducible apply hU.drewN))) (a0.nH.same (by repeat (first | with_reducible exact hU.refl _ _ _ | ((with_reducible refine hU.base ?_ ?_) <;> (simp <;> omega)) | ((with_reducible refine hU.more ?_ ?_ _ _);rotate_left;simp <;> omega) | ((with_reducible refine hU.alloc ?_ ?_ _);rotate_left;simp <;> omega) | with_reducible apply hU.drew | with_reducible apply hU.drewN))) p5 p6 (by simp <;> omega) (by simp <;> omega) (by simp <;> omega)
section
variable {P:Program} {ops:Array Oper} {QI:Exit->Act->U->Prop} {md:Ts} {S:U->Prop} {m:Nat}
theorem fA.st (i:Nat)(cs:Q Nat){oi:Oper}{v:Value}{f:Nat}{listed:Array Bool}{a:Act}{w:U}(hS:S w)(h:fA P md ops QI S m f (listed.setIfInBounds i M) (a.put oi.dst v) w)
  (hr:(RL md ops listed).contains i=M:=by kernel_rfl) (hi:ops[i]?=Z oi:=by exact rfl) (hsel:Tn ops=M:=by kernel_rfl) (hf:Ui md ops listed i=M:=by kernel_rfl) (hlk:qB md ops m i cs=M:=by kernel_rfl) (hne:cs.isEmpty=I:=by exact rfl) (hun:sZ listed cs=M:=by kernel_rfl)
  (hQ:∀ c a w,QI (.panic c) (a.put oi.dst v) w->QI (.panic c) a w:=by exact fun _ _ _ h=>h) (hw:Rx oi (Su ops a.tmps)=M:=by first | rfl | kernel_rfl) (hy:∀ w,S w->(execOp a.eval oi).run P w=.ok (.value v) w:=by intro w hSw;(try dsimp only at hSw);go_simp;(try with_reducible rfl)):fA P md ops QI S m (f+1) listed a w:=
 fA.take hi hsel hf hr hlk hne hun hQ hS hw hy h
theorem fA.s1 (i:Nat){o:Oper}{f:Nat}{listed:Array Bool}{a:Act}{w:U}(h:∀ K:Act->U->Prop,Hid (∀ a w,S w->fA P md ops QI S m f (listed.setIfInBounds i M) a w->K a w)->if Rx o (Su ops a.tmps)=M then Oper.wp P o a w K QI else K (a.put o.dst TE) w)
  (hr:RL md ops listed = [i]:=by kernel_rfl) (ho:ops[i]?=Z o:=by exact rfl):fA P md ops QI S m (f+1) listed a w:=.gQ hr ho h
theorem fA.s2 (i j:Nat){o o2:Oper}{f:Nat}{listed:Array Bool}{a:Act}{w:U}
  (h:∀ K:Act->U->Prop,Hid (∀ a w,S w->fA P md ops QI S m f (listed.setIfInBounds i M) a w->K a w)->if Rx o (Su ops a.tmps)=M then Oper.wp P o a w K QI else K (a.put o.dst TE) w)
  (h2:∀ K:Act->U->Prop,Hid (∀ a w,S w->fA P md ops QI S m f (listed.setIfInBounds j M) a w->K a w)->if Rx o2 (Su ops a.tmps)=M then Oper.wp P o2 a w K QI else K (a.put o2.dst TE) w)
  (hr:RL md ops listed = [i,j]:=by kernel_rfl) (ho:ops[i]?=Z o:=by exact rfl) (ho2:ops[j]?=Z o2:=by exact rfl):fA P md ops QI S m (f+1) listed a w:=.pd hr ho ho2 h h2
theorem fA.s3 (i j l:Nat){o o2 o3:Oper}{f:Nat}{listed:Array Bool}{a:Act}{w:U}
  (h:∀ K:Act->U->Prop,Hid (∀ a w,S w->fA P md ops QI S m f (listed.setIfInBounds i M) a w->K a w)->if Rx o (Su ops a.tmps)=M then Oper.wp P o a w K QI else K (a.put o.dst TE) w)
  (h2:∀ K:Act->U->Prop,Hid (∀ a w,S w->fA P md ops QI S m f (listed.setIfInBounds j M) a w->K a w)->if Rx o2 (Su ops a.tmps)=M then Oper.wp P o2 a w K QI else K (a.put o2.dst TE) w)
  (h3:∀ K:Act->U->Prop,Hid (∀ a w,S w->fA P md ops QI S m f (listed.setIfInBounds l M) a w->K a w)->if Rx o3 (Su ops a.tmps)=M then Oper.wp P o3 a w K QI else K (a.put o3.dst TE) w)
  (hr:RL md ops listed = [i,j,l]:=by kernel_rfl) (ho:ops[i]?=Z o:=by exact rfl) (ho2:ops[j]?=Z o2:=by exact rfl) (ho3:ops[l]?=Z o3:=by exact rfl):fA P md ops QI S m (f+1) listed a w:=.xw hr ho ho2 ho3 h h2 h3
theorem fA.sl {o:Oper} {f:Nat} {listed:Array Bool} {a:Act} (h:∀ K:Act->U->Prop,Hid (∀ a w,QI .normal a w->K a w)->if Rx o (Su ops a.tmps)=M then Oper.wp P o a w K QI else K (a.put o.dst TE) w)
  (hr:RL md ops listed = [m]:=by kernel_rfl) (ho:ops[m]?=Z o:=by exact rfl) (hd:RL md ops (listed.setIfInBounds m M) = []:=by kernel_rfl):fA P md ops QI S m (f+1) listed a w:=.last hr ho hd h
end
theorem ML {L:Q Nat} (h:fw (S++L) a b)(hL:∀ k∈L,a.heap.size<=k):fw S a b:=by
 obtain⟨h1,h2,h3,h4,h5⟩:=h;refine⟨h1,h2,h3,h4,fun k hk hn=>h5 k hk (fun hm=>?_)⟩;rcases Q7.1 hm with hm | hm
 ·exact hn hm
 ·have:=hL k hm;omega
theorem zs {Y1 Y Y2 W:U} {g3:Nat} (ho:fw [g3] Y1 Y)(hg:ft Y Y2)(hon:fw S Y2 W)(hS:∀ b∈S,Y1.heap.size<=b)(j:Nat)(v:Value):fw [g3] Y1 (W.setCell ⟨g3,j,D⟩ v):=
 (ML (((ho.trans (hg.only [g3])).mono (S':=[g3]++S) (fun k hk=>Rm _ hk)).trans (hon.mono (fun k hk=>Rr _ hk))) hS).setCell (p:=⟨g3,j,D⟩) (by simp) v
theorem oU (h:ft a b){p:Ri}{v:Value}(hp:a.cell? p=Z v):b.cell? p=Z v:=by
 obtain⟨os,d,rfl⟩:=h;exact zd hp os d
theorem zoq {x:gu} {A:X Ri} {c:Nat} (p0:x.Code.size<=9223372036854775807)(h1:(ji.sl 137).R w w.heap.size [G A x.fm.length c] x.fm)(hl:x.fm.length<=1099511627776) :
  Rh prog 107 #[.agg #[V x.Code,G A x.fm.length c]] w (Nw x w):=by
 go_enter func107,ntmps107;go_wp2_with(fail);have a4:ft w ((w.alloc (F #[V x.Code,G A x.fm.length c] 103)).alloc (F #[V ⟨#[]⟩,G D 0 0] 103)):=gG;have eb:((w.alloc (F #[V x.Code,G A x.fm.length c] 103)).alloc (F #[V ⟨#[]⟩,G D 0 0] 103)).heap[w.heap.size]?=Z (F #[V x.Code,G A x.fm.length c] 103 (0,0)):=zj (QO w _) gF;have er:((w.alloc (F #[V x.Code,G A x.fm.length c] 103)).alloc (F #[V ⟨#[]⟩,G D 0 0] 103)).heap[w.heap.size+1]?=Z (F #[V ⟨#[]⟩,G D 0 0] 103 (0,0)):=by have h:=QO (w.alloc (F #[V x.Code,G A x.fm.length c] 103)) (F #[V ⟨#[]⟩,G D 0 0] 103);rw[Rf] at h;exact h
 have hd:=Ty.up _ h1 a4;obtain⟨g,hg⟩:∃ g,w.heap.size=g:=⟨_,rfl⟩
 rw[hg] at eb er |-;generalize ((w.alloc _).alloc _)=Y at a4 eb er hd |-;obtain⟨y0,y1,_,_,yl⟩:=kI eb;obtain⟨z0,z1,ag,ah,zl⟩:=kI er;have af:g≠g+1:=by omega
 have a8:g≠Y.heap.size:=by omega
 have a6:g+1≠Y.heap.size:=by omega
 clear h1
 go_region_held3 (fun w'=>QL w' ⟨g,0,D⟩=Z (V x.Code)/\QL w' ⟨g,1,D⟩=Z (G A x.fm.length c)) ((repeat' apply QQ) <;> ((repeat (first | with_reducible assumption | with_reducible refine zd ?_ _ _ | with_reducible refine zk ?_ _ | with_reducible refine zc ?_ | with_reducible refine xX ?_ ?_));done)) (first
  | (refine zK (L:=x.fm.length) rfl (.tmp 5) (.tmp 7) Az yS (S:=[Y.heap.size]) (Has.emp ji (QO _ _)) (Ty.up _ hd gG) rfl rfl rfl (Rk _).symm (by omega) (by omega) ?_;intro A7 c7 W7 S7 a5 ab ac;have e7:=xW er gF a5 (by simpa using a6);have q0:=zz y0 gF a5 (by simpa using a8);have q1:=zz y1 gF a5 (by simpa using a8);obtain⟨a0,a1,a2,a3,_⟩:=kI e7;have ad:=(blt e7)))
 go_wp2_with(fail);have h2:=rD e7 (V x.Code) (G A7 x.fm.length c7);obtain⟨r0,r1,_,_,_⟩:=kI h2.1;have ae:=a4.size;have aa:ft Y W7:=a5.fx (W0:=Y) gF (fun b hb=>by simp at hb;omega)
 have a9:∀ b∈S7,Y.heap.size<=b:=fun b hb=>by
  rcases ac b hb with h | h
  ·simp at h;omega
  ·simp at h;omega
 have a7:=ab.fJ h2.2 (fun b hb hm=>by have:=a9 b hb;simp at hm;omega);rw[RC] at a7;exact QU (v:=.agg #[V x.Code,G A7 x.fm.length c7]) (by simp[Rd,results107,go_sem,r0,r1]) rfl ⟨A7,c7,rfl,JN p0 (Has.fresh (w:=w) a7 (fun b hb=>by have:=a9 b hb;omega)).nH (Q8 _),h2.2.fx (a4.trans aa) (fun b hb=>by simp at hb;omega)⟩
theorem tX {g:Prop} (f:g:=by
  obtain⟨a0,a1,a2,af,al⟩:=jc e7
  refine fA.last (by kernel_rfl) rfl (by kernel_rfl) (fun K hK=>?_)
  go_simp
  refine hK.out _ _ ?_
  clear hK
  try simp only[lay]
  generalize W7.setCell _ _=QJ at ho9 hb9 hH9 |-
  clear hS9 hon hH7 hS7 e7 hb hH ho
  have htk:s.fq.take j++[x]=s.fq.take (j+1):=by rw[RH,hxk];rfl
  rw[htk] at hH9
  go_wp2_with(fail)
  go_roundw
  exact⟨j+1,A7,c7,S7,by simp,by omega,fh ho9,fh hb9,fh hH9,fh hlo⟩
  exact gH):g:=f
theorem uM {g:Prop} (f:g:=by
  rcases Q7.1 hb' with hb' | hb'
  ·rcases Q7.1 hb' with hb' | hb'
   ·have:=hS.out b hb'
    omega
   ·have:=HJ.la b hb'
    omega
  ·have:=HJ.lb b hb'
   omega):g:=f
theorem zjw (h0:(iL.sl 103).R w w.heap.size [G A0 s.fq.length c0] s.fq)(h1:(zr.sl 3).R w w.heap.size [G A1 s.fu.length c1] s.fu)
  (h2:(zr.sl 3).R w w.heap.size [G A2 s.Entries.length c2] s.Entries) (hs:jP s<=1099511627776) :
  Rh prog 72 #[.agg #[G A0 s.fq.length c0,G A1 s.fu.length c1,G A2 s.Entries.length c2]] w (GN s w):=by
 have az:s.fu.length<=1099511627776:=by unfold jP at hs;omega
 have aA:s.Entries.length<=1099511627776:=by unfold jP at hs;omega
 go_enter func72,ntmps72;go_upto_region 1 with(fail);have a5:ft w ((w.alloc (F #[G A0 s.fq.length c0,G A1 s.fu.length c1,G A2 s.Entries.length c2] 28)).alloc (F #[G D 0 0,G D 0 0,G D 0 0] 28)):=gG;have eb:((w.alloc (F #[G A0 s.fq.length c0,G A1 s.fu.length c1,G A2 s.Entries.length c2] 28)).alloc (F #[G D 0 0,G D 0 0,G D 0 0] 28)).heap[w.heap.size]?=Z (F #[G A0 s.fq.length c0,G A1 s.fu.length c1,G A2 s.Entries.length c2] 28 (0,0)):=zj (QO w _) gF;have er:((w.alloc (F #[G A0 s.fq.length c0,G A1 s.fu.length c1,G A2 s.Entries.length c2] 28)).alloc (F #[G D 0 0,G D 0 0,G D 0 0] 28)).heap[w.heap.size+1]?=Z (F #[G D 0 0,G D 0 0,G D 0 0] 28 (0,0)):=by have h:=QO (w.alloc (F #[G A0 s.fq.length c0,G A1 s.fu.length c1,G A2 s.Entries.length c2] 28)) (F #[G D 0 0,G D 0 0,G D 0 0] 28);rw[Rf] at h;exact h
 have ah:=Ty.up _ h0 a5;have ai:=Ty.up _ h1 a5;have aj:=Ty.up _ h2 a5;obtain⟨g,hg⟩:∃ g,w.heap.size=g:=⟨_,rfl⟩
 rw[hg] at eb er |-;generalize ((w.alloc _).alloc _)=Y at a5 eb er ah ai aj |-;obtain⟨y0,y1,y2,_,yl⟩:=jc eb;have zl:=(jc er).2.2.2.2;clear h0 h1 h2;go_cut [3] from 3 to 13 (fun v3 wx=>∃(g3:Nat) (B1 B2:X Ri) (d1 d2:Nat) (S1 S2:Q Nat),v3=.pointer (Z ⟨g3,0,D⟩)/\J3 zr zr 3 3 Y wx (G B1 s.fu.length d1) (G B2 s.Entries.length d2) s.fu s.Entries S1 S2 g3 (F #[G D 0 0,G B1 s.fu.length d1,G B2 s.Entries.length d2] 28 (0,0))/\Y.heap.size<=g3)
 case first=>
  refine jT (fun w'=>QL w' ⟨g,1,D⟩=Z (G A1 s.fu.length c1)/\QL w' ⟨g,2,D⟩=Z (G A2 s.Entries.length c2)) 10 (by kernel_rfl) ⟨zc y1,zc y2⟩ (fun hH=>?_);have HJ:=J3.start (T:=zr) (QF:=zr) (e:=3) (f:=3) er;have HJ:=HJ.fx ((ft.refl _).drew);generalize hYd:Y.drew=Wx at HJ hH |-;clear hYd
  repeat' first
   | (clear M3
      refine zK (L:=s.fu.length) rfl (.tmp 5) (.tmp 7) mg zD HJ.ha (Ty.up _ ai HJ.hg) rfl rfl rfl (Rk _).symm (by omega) (by omega) ?_
      intro B1 d1 W1 S1 hon hH hS
      rw[RC] at hH
      have HJ:=HJ.oC hon hH hS
      refine hK.out _ _ ⟨HJ.cell y1,HJ.cell y2⟩ ?_
      clear hK
      have D3:=trivial
      try simp only[gO])
   | (clear M7
      refine zK (L:=s.Entries.length) rfl (.tmp 9) (.tmp 11) mg zD HJ.hb (Ty.up _ aj HJ.hg) rfl rfl rfl (Rk _).symm (by omega) (by omega) ?_
      intro B2 d2 W2 S2 hon hH hS
      rw[RC] at hH
      have HJ:=HJ.xh hon hH hS
      refine hK.out _ _ ⟨HJ.cell y1,HJ.cell y2⟩ ?_
      clear hK
      have D7:=trivial
      try simp only[gO])
   | (clear M0
      go_simp
      have HJ:=HJ.kY
      refine hK.out _ _ ⟨HJ.cell y1,HJ.cell y2⟩ ?_
      clear hK
      generalize RR _ (F #[] 3)=Wx at HJ |-
      have D0:=trivial
      try simp only[gO])
   | (clear M4
      go_simp
      have HJ:=HJ.jF
      refine hK.out _ _ ⟨HJ.cell y1,HJ.cell y2⟩ ?_
      clear hK
      generalize RR _ (F #[] 3)=Wx at HJ |-
      have D4:=trivial
      try simp only[gO])
   | (clear M9
      go_simp
      have a8:=HJ.hg.size
      have HJ:=HJ.kp (cs:=#[G D 0 0,G D 0 0,G D 0 0]) (t:=28)
      refine hK.out _ _ ⟨HJ.cell y1,HJ.cell y2⟩ ?_
      clear hK
      generalize RR _ (F #[G D 0 0,G D 0 0,G D 0 0] 28)=Wx at HJ |-
      have D9:=trivial
      try simp only[gO])
   | ((fail_if_success clear T1);refine fA.st 1 [10] ⟨HJ.cell y1,HJ.cell y2⟩ ?_;have T1:=trivial;try simp only[gO])
   | ((fail_if_success clear T2);refine fA.st 2 [10] ⟨HJ.cell y1,HJ.cell y2⟩ ?_;have T2:=trivial;try simp only[gO])
   | ((fail_if_success clear T5);refine fA.st 5 [10] ⟨HJ.cell y1,HJ.cell y2⟩ ?_;have T5:=trivial;try simp only[gO])
   | ((fail_if_success clear T6);refine fA.st 6 [10] ⟨HJ.cell y1,HJ.cell y2⟩ ?_;have T6:=trivial;try simp only[gO])
   | ((fail_if_success clear T8);revert D0 D3 D4 D7;intro D0 D3 D4 D7;refine fA.st 8 [10] ⟨HJ.cell y1,HJ.cell y2⟩ ?_;have T8:=trivial;try simp only[gO])
   | (revert D0 D3 D4 D7 D9;intro D0 D3 D4 D7 D9
      refine fA.sl (fun K hK=>?_)
      obtain⟨o0,o1,o2,of,ol⟩:=jc HJ.ho
      go_simp
      refine hK.out _ _ ?_
      clear hK
      try simp only[gO]
      have h2:=rB HJ.ho (G D 0 0) (G B1 s.fu.length d1) (G B2 s.Entries.length d2)
      have HJ:=HJ.store h2.2 h2.1 a8
      go_wp2_with(fail)
      go_meet
      exact⟨_,B1,B2,d1,d2,S1,S2,rfl,HJ,a8⟩)
   | (revert D0 D3 D4 D7;intro D0 D3 D4 D7;refine fA.s1 9 (fun K hK=>(fun M9:True=>?_) trivial))
   | (revert D0 D3 D4 D9;intro D0 D3 D4 D9;refine fA.s1 7 (fun K hK=>(fun M7:True=>?_) trivial))
   | (revert D0 D3 D4;intro D0 D3 D4;refine fA.s2 7 9 (fun K hK=>(fun M7:True=>?_) trivial) (fun K hK=>(fun M9:True=>?_) trivial))
   | (revert D0 D3 D9;intro D0 D3 D9;refine fA.s1 4 (fun K hK=>(fun M4:True=>?_) trivial))
   | (revert D0 D4 D9;intro D0 D4 D9;refine fA.s1 3 (fun K hK=>(fun M3:True=>?_) trivial))
   | (revert D0 D3;intro D0 D3;refine fA.s2 4 9 (fun K hK=>(fun M4:True=>?_) trivial) (fun K hK=>(fun M9:True=>?_) trivial))
   | (revert D0 D4;intro D0 D4;refine fA.s2 3 9 (fun K hK=>(fun M3:True=>?_) trivial) (fun K hK=>(fun M9:True=>?_) trivial))
   | (revert D0 D9;intro D0 D9;refine fA.s2 3 4 (fun K hK=>(fun M3:True=>?_) trivial) (fun K hK=>(fun M4:True=>?_) trivial))
   | (revert D4 D9;intro D4 D9;refine fA.s1 0 (fun K hK=>(fun M0:True=>?_) trivial))
   | (revert D0;intro D0;refine fA.s3 3 4 9 (fun K hK=>(fun M3:True=>?_) trivial) (fun K hK=>(fun M4:True=>?_) trivial) (fun K hK=>(fun M9:True=>?_) trivial))
   | (revert D4;intro D4;refine fA.s2 0 9 (fun K hK=>(fun M0:True=>?_) trivial) (fun K hK=>(fun M9:True=>?_) trivial))
   | (revert D9;intro D9;refine fA.s2 0 4 (fun K hK=>(fun M0:True=>?_) trivial) (fun K hK=>(fun M4:True=>?_) trivial))
   | (refine fA.s3 0 4 9 (fun K hK=>(fun M0:True=>?_) trivial) (fun K hK=>(fun M4:True=>?_) trivial) (fun K hK=>(fun M9:True=>?_) trivial))
 case rest=>
  obtain⟨g3,B1,B2,d1,d2,S1,S2,rfl,HJ,a8⟩:=hcut;have aq:g≠g3:=by omega
  have aB:=(blt HJ.ho)
  have aC:s.fq.length<=1099511627776:=by unfold jP lH at hs;omega
  have aw:=HJ.cell y0;go_wp2_with(fail);go_loopw [4] (fun z wr=>∃(j:Nat) (A:X Ri) (c:Nat) (S:Q Nat),z=J C j/\j<=s.fq.length/\Hid (fw [g3] wc wr)/\Hid (wr.heap[g3]?=Z (F #[G A j c,G B1 s.fu.length d1,G B2 s.Entries.length d2] 28 (0,0)))/\Hid (Has (iL.sl 103) wr [G A j c] (s.fq.take j) S)/\Hid (∀ b∈S,wc.heap.size<=b)) (fun z _=>s.fq.length-(Ry z).toNat)
  case atStart=>exact⟨0,D,0,[],rfl,QX _,fh (fw.refl _ _),fh HJ.ho,fh (Has.nil _ _ _),fh (by simp)⟩
  case round=>
   obtain⟨j,A,c,S,rfl,hj,ho,hb,hH,hS⟩:=hrel;have a4:ft Y wr:=ho.out.fx HJ.hg (fun b hb=>by simp at hb;omega);have aD:wc.heap.size<=wr.heap.size:=ho.out.size;have k0:=oU a4 y0;obtain⟨o0,o1,o2,of,ol⟩:=jc hb.out;obtain⟨z0,z1,z2,zf,aE⟩:=jc (zj er a4);by_cases hlt:j<s.fq.length
   ·have ao:=ah
    obtain⟨gI,aa,x,Ax,cx,rfl,ay,hxk,m0,m1,p0,au⟩:=qW ao hlt;have n0:=oU a4 m0;have n1:=oU a4 m1;have a9:=Ty.up _ au a4;have ar:(j:Int)<(s.fq.length:Int):=by omega
    have av:x.fm.length<=1099511627776:=by have h2:x.fm.length<=lV x:=(by unfold lV lH;omega);have h1:=vM lV hxk;unfold jP at hs;omega
    have ap:gI≠g3:=by omega
    go_upto_region 5 with(fail);refine jT (fun w'=>QL w' ⟨g,0,D⟩=Z (G (Z ⟨gI,aa,D⟩) s.fq.length c0)/\QL w' ⟨g3,0,D⟩=Z (G A j c)/\QL w' ⟨gI,aa+j*2,D⟩=Z (V x.Code)/\QL w' ⟨gI,aa+j*2+1,D⟩=Z (G Ax x.fm.length cx)) 11 (by kernel_rfl) (QQ (zc k0) (QQ (zc o0) (QQ (zc n0) (zc n1)))) (fun hS9=>?_);refine .tq 0 [11] hS9 ?_;refine .tq 1 [11] hS9 ?_;refine .tq 2 [11] hS9 ?_;refine .tq 3 [11] hS9 ?_;refine .tq 4 [11] hS9 ?_;refine .tq 5 [11] hS9 ?_;refine .tq 6 [11] hS9 ?_;refine fA.gQ (i:=7) (by kernel_rfl) rfl (fun K hK=>?_)
    ·go_simp
     go_at_call 107
     with_reducible refine(zoq (x:=x) p0 (Ty.up _ a9 gG) av).mono ?_
     rintro e w2 ⟨Bi,ci,rfl,am,a3,d2,rfl⟩;have hS9:=QQ (zd (zc k0) a3 d2) (QQ (zd (zc o0) a3 d2) (QQ (zd (zc n0) a3 d2) (zd (zc n1) a3 d2)));refine hK.out _ _ hS9 ?_;clear hK
     try simp only[lay]
     refine fA.gQ (i:=8) (by kernel_rfl) rfl (fun K hK=>?_)
     ·go_simp
      have hS9:=QQ (zk (zd (zc k0) a3 d2) (F #[V x.Code,G Bi x.fm.length ci] 103)) (QQ (zk (zd (zc o0) a3 d2) (F #[V x.Code,G Bi x.fm.length ci] 103)) (QQ (zk (zd (zc n0) a3 d2) (F #[V x.Code,G Bi x.fm.length ci] 103)) (zk (zd (zc n1) a3 d2) (F #[V x.Code,G Bi x.fm.length ci] 103))));refine hK.out _ _ hS9 ?_;clear hK
      try simp only[lay]
      refine fA.gQ (i:=9) (by kernel_rfl) rfl (fun K hK=>?_)
      ·obtain⟨Sy,an,ak⟩:=fU.has am
       have a7:∀ b∈S,b∉Sy:=fun b hb' hm=>by have h1:=ak b hm;have h2:=hH.out.lt b hb';simp at h1;omega
       refine wo (L:=j+1) rfl (.tmp 22) (.tmp 29) Ih (hH.out.fx gF) (an.fx gF) a7 rfl rfl rfl (by intro j u hu;simpa[go_sem] using hu) rfl (by omega) (by omega) ?_;intro A7 c7 W7 S7 hon hH7 hS7;have a6:∀ k,k<wc.heap.size->k∉S:=fun k hk hm=>by have:=hS.out k hm;omega
       have e7:=xW hb.out gF hon (a6 _ (by omega));have hS9:=QQ (zz k0 gF hon (a6 _ (by omega))) (QQ (zz o0 gF hon (a6 _ (by omega))) (QQ (zz n0 gF hon (a6 _ (by omega))) (zz n1 gF hon (a6 _ (by omega)))));have ab:ft wr ((fx wr a3 d2).alloc (F #[V x.Code,G Bi x.fm.length ci] 103)):=gF
       have hlo:∀ b∈S7,wc.heap.size<=b:=fun b hb'=>by
        rcases hS7 b hb' with h | h | h
        ·exact hS.out b h
        ·have h8:wr.heap.size<=b:=ak b h
         omega
        ·have:=ab.size;omega
       have ho9:=zs ho.out ab hon hS.out 0 (G A7 (j+1) c7);have hb9:=jb (i:=0) (v:=G A7 (j+1) c7) e7 rfl;have hH9:=hH7.fJ ((fw.refl [g3] W7).setCell (p:=⟨g3,0,D⟩) (by simp) (G A7 (j+1) c7)) (fun b hb' hm=>by have:=hlo b hb';simp at hm;omega);refine hK.out _ _ hS9 ?_;clear hK
       try simp only[lay]
       refine .tq 10 [11] hS9 ?_;exact tX
   ·obtain rfl:j=s.fq.length:=by omega
    have ar:¬ (s.fq.length:Int)<(s.fq.length:Int):=by omega
    have ag:=hH.out;rw[RX] at ag;go_wp2_with(fail);have h9:=rB (zj er a4) (G A s.fq.length c) (G B1 s.fu.length d1) (G B2 s.Entries.length d2);obtain⟨r0,r1,r2,_,_⟩:=jc h9.1;have ac:=ag.fJ h9.2 (fun b hb' hm=>by have:=hS.out b hb';simp at hm;omega);have ad:=(HJ.ha.fJ ho.out (fun b hb' hm=>by simp at hm;exact HJ.ng (hm ▸ hb'))).fJ h9.2 (fun b hb' hm=>by have:=HJ.la b hb';simp at hm;omega);have ae:=(HJ.hb.fJ ho.out (fun b hb' hm=>by simp at hm;exact HJ.rP (hm ▸ hb'))).fJ h9.2 (fun b hb' hm=>by have:=HJ.lb b hb';simp at hm;omega);have ax:w.heap.size<=Y.heap.size:=a5.size;refine QU (v:=.agg #[G A s.fq.length c,G B1 s.fu.length d1,G B2 s.Entries.length d2]) (by simp[Rd,results72,go_sem,r0,r1,r2]) rfl ⟨A,c,B1,d1,B2,d2,rfl,⟨_,xM ac.1 ad.1 ae.1,?_,?_⟩,h9.2.fx (a5.trans a4) (fun b hb'=>by simp at hb';omega)⟩
    ·refine Rs.2 ⟨Rs.2 ⟨ac.2,ad.2,fun a ha b hb' he=>?_⟩,ae.2,fun a ha b hb' he=>?_⟩
     ·have h1:=hS.out a ha
      have h2:=HJ.ha.lt b hb';omega
     ·rcases Q7.1 ha with ha | ha
      ·have h1:=hS.out a ha
       have h2:=HJ.hb.lt b hb';omega
      ·exact HJ.nJ a ha (he ▸ hb')
    ·intro b hb'
     exact uM
theorem zjv (h0:(iL.sl 103).R w w.heap.size [G A0 s.fq.length c0] s.fq)(h1:(zr.sl 3).R w w.heap.size [G A1 s.fu.length c1] s.fu)
  (h2:(zr.sl 3).R w w.heap.size [G A2 s.Entries.length c2] s.Entries) (hs:jP s<=1099511627776) :
  Rh prog 78 #[.agg #[G A0 s.fq.length c0,G A1 s.fu.length c1,G A2 s.Entries.length c2]] w (GN s w):=by
 have aH:s.fu.length<=1099511627776:=by unfold jP at hs;omega
 have aI:s.Entries.length<=1099511627776:=by unfold jP at hs;omega
 go_enter func78,ntmps78;go_upto_region 1 with(fail);have a5:ft w ((w.alloc (F #[G A0 s.fq.length c0,G A1 s.fu.length c1,G A2 s.Entries.length c2] 28)).alloc (F #[G D 0 0,G D 0 0,G D 0 0] 28)):=gG;have eb:((w.alloc (F #[G A0 s.fq.length c0,G A1 s.fu.length c1,G A2 s.Entries.length c2] 28)).alloc (F #[G D 0 0,G D 0 0,G D 0 0] 28)).heap[w.heap.size]?=Z (F #[G A0 s.fq.length c0,G A1 s.fu.length c1,G A2 s.Entries.length c2] 28 (0,0)):=zj (QO w _) gF;have er:((w.alloc (F #[G A0 s.fq.length c0,G A1 s.fu.length c1,G A2 s.Entries.length c2] 28)).alloc (F #[G D 0 0,G D 0 0,G D 0 0] 28)).heap[w.heap.size+1]?=Z (F #[G D 0 0,G D 0 0,G D 0 0] 28 (0,0)):=by have h:=QO (w.alloc (F #[G A0 s.fq.length c0,G A1 s.fu.length c1,G A2 s.Entries.length c2] 28)) (F #[G D 0 0,G D 0 0,G D 0 0] 28);rw[Rf] at h;exact h
 have an:=Ty.up _ h0 a5;have ao:=Ty.up _ h1 a5;have ap:=Ty.up _ h2 a5;obtain⟨g,hg⟩:∃ g,w.heap.size=g:=⟨_,rfl⟩
 rw[hg] at eb er |-;generalize ((w.alloc _).alloc _)=Y at a5 eb er an ao ap |-;obtain⟨y0,y1,y2,_,yl⟩:=jc eb;have zl:=(jc er).2.2.2.2;clear h0 h1 h2;go_cut [3] from 3 to 14 (fun v3 wx=>∃(g3:Nat) (B1 B2:X Ri) (d1 d2:Nat) (S1 S2:Q Nat),v3=.pointer (Z ⟨g3,0,D⟩)/\J3 zr zr 3 3 Y wx (G B1 s.fu.length d1) (G B2 s.Entries.length d2) s.fu s.Entries S1 S2 g3 (F #[G D 0 0,G B1 s.fu.length d1,G B2 s.Entries.length d2] 28 (0,0))/\Y.heap.size<=g3)
 case first=>
  refine jT (fun w'=>QL w' ⟨g,1,D⟩=Z (G A1 s.fu.length c1)/\QL w' ⟨g,2,D⟩=Z (G A2 s.Entries.length c2)) 10 (by kernel_rfl) ⟨zc y1,zc y2⟩ (fun hH=>?_);have HJ:=J3.start (T:=zr) (QF:=zr) (e:=3) (f:=3) er;have HJ:=HJ.fx ((ft.refl _).drew);generalize hYd:Y.drew=Wx at HJ hH |-;clear hYd
  repeat' first
   | (clear M3
      refine zK (L:=s.fu.length) rfl (.tmp 6) (.tmp 8) mg zD HJ.ha (Ty.up _ ao HJ.hg) rfl rfl rfl (Rk _).symm (by omega) (by omega) ?_
      intro B1 d1 W1 S1 hon hH hS
      rw[RC] at hH
      have HJ:=HJ.oC hon hH hS
      refine hK.out _ _ ⟨HJ.cell y1,HJ.cell y2⟩ ?_
      clear hK
      have D3:=trivial
      try simp only[gO])
   | (clear M7
      refine zK (L:=s.Entries.length) rfl (.tmp 10) (.tmp 12) mg zD HJ.hb (Ty.up _ ap HJ.hg) rfl rfl rfl (Rk _).symm (by omega) (by omega) ?_
      intro B2 d2 W2 S2 hon hH hS
      rw[RC] at hH
      have HJ:=HJ.xh hon hH hS
      refine hK.out _ _ ⟨HJ.cell y1,HJ.cell y2⟩ ?_
      clear hK
      have D7:=trivial
      try simp only[gO])
   | (clear M0
      go_simp
      have HJ:=HJ.kY
      refine hK.out _ _ ⟨HJ.cell y1,HJ.cell y2⟩ ?_
      clear hK
      generalize RR _ (F #[] 3)=Wx at HJ |-
      have D0:=trivial
      try simp only[gO])
   | (clear M4
      go_simp
      have HJ:=HJ.jF
      refine hK.out _ _ ⟨HJ.cell y1,HJ.cell y2⟩ ?_
      clear hK
      generalize RR _ (F #[] 3)=Wx at HJ |-
      have D4:=trivial
      try simp only[gO])
   | (clear M9
      go_simp
      have ae:=HJ.hg.size
      have HJ:=HJ.kp (cs:=#[G D 0 0,G D 0 0,G D 0 0]) (t:=28)
      refine hK.out _ _ ⟨HJ.cell y1,HJ.cell y2⟩ ?_
      clear hK
      generalize RR _ (F #[G D 0 0,G D 0 0,G D 0 0] 28)=Wx at HJ |-
      have D9:=trivial
      try simp only[gO])
   | ((fail_if_success clear T1);refine fA.st 1 [10] ⟨HJ.cell y1,HJ.cell y2⟩ ?_;have T1:=trivial;try simp only[gO])
   | ((fail_if_success clear T2);refine fA.st 2 [10] ⟨HJ.cell y1,HJ.cell y2⟩ ?_;have T2:=trivial;try simp only[gO])
   | ((fail_if_success clear T5);refine fA.st 5 [10] ⟨HJ.cell y1,HJ.cell y2⟩ ?_;have T5:=trivial;try simp only[gO])
   | ((fail_if_success clear T6);refine fA.st 6 [10] ⟨HJ.cell y1,HJ.cell y2⟩ ?_;have T6:=trivial;try simp only[gO])
   | ((fail_if_success clear T8);revert D0 D3 D4 D7;intro D0 D3 D4 D7;refine fA.st 8 [10] ⟨HJ.cell y1,HJ.cell y2⟩ ?_;have T8:=trivial;try simp only[gO])
   | (revert D0 D3 D4 D7 D9;intro D0 D3 D4 D7 D9
      refine fA.sl (fun K hK=>?_)
      obtain⟨o0,o1,o2,of,ol⟩:=jc HJ.ho
      go_simp
      refine hK.out _ _ ?_
      clear hK
      try simp only[gO]
      have h2:=rB HJ.ho (G D 0 0) (G B1 s.fu.length d1) (G B2 s.Entries.length d2)
      have HJ:=HJ.store h2.2 h2.1 ae
      go_wp2_with(fail)
      go_meet
      exact⟨_,B1,B2,d1,d2,S1,S2,rfl,HJ,ae⟩)
   | (revert D0 D3 D4 D7;intro D0 D3 D4 D7;refine fA.s1 9 (fun K hK=>(fun M9:True=>?_) trivial))
   | (revert D0 D3 D4 D9;intro D0 D3 D4 D9;refine fA.s1 7 (fun K hK=>(fun M7:True=>?_) trivial))
   | (revert D0 D3 D4;intro D0 D3 D4;refine fA.s2 7 9 (fun K hK=>(fun M7:True=>?_) trivial) (fun K hK=>(fun M9:True=>?_) trivial))
   | (revert D0 D3 D9;intro D0 D3 D9;refine fA.s1 4 (fun K hK=>(fun M4:True=>?_) trivial))
   | (revert D0 D4 D9;intro D0 D4 D9;refine fA.s1 3 (fun K hK=>(fun M3:True=>?_) trivial))
   | (revert D0 D3;intro D0 D3;refine fA.s2 4 9 (fun K hK=>(fun M4:True=>?_) trivial) (fun K hK=>(fun M9:True=>?_) trivial))
   | (revert D0 D4;intro D0 D4;refine fA.s2 3 9 (fun K hK=>(fun M3:True=>?_) trivial) (fun K hK=>(fun M9:True=>?_) trivial))
   | (revert D0 D9;intro D0 D9;refine fA.s2 3 4 (fun K hK=>(fun M3:True=>?_) trivial) (fun K hK=>(fun M4:True=>?_) trivial))
   | (revert D4 D9;intro D4 D9;refine fA.s1 0 (fun K hK=>(fun M0:True=>?_) trivial))
   | (revert D0;intro D0;refine fA.s3 3 4 9 (fun K hK=>(fun M3:True=>?_) trivial) (fun K hK=>(fun M4:True=>?_) trivial) (fun K hK=>(fun M9:True=>?_) trivial))
   | (revert D4;intro D4;refine fA.s2 0 9 (fun K hK=>(fun M0:True=>?_) trivial) (fun K hK=>(fun M9:True=>?_) trivial))
   | (revert D9;intro D9;refine fA.s2 0 4 (fun K hK=>(fun M0:True=>?_) trivial) (fun K hK=>(fun M4:True=>?_) trivial))
   | (refine fA.s3 0 4 9 (fun K hK=>(fun M0:True=>?_) trivial) (fun K hK=>(fun M4:True=>?_) trivial) (fun K hK=>(fun M9:True=>?_) trivial))
 case rest=>
  obtain⟨g3,B1,B2,d1,d2,S1,S2,rfl,HJ,ae⟩:=hcut;have aB:g≠g3:=by omega
  have aJ:=(blt HJ.ho)
  have aK:s.fq.length<=1099511627776:=by unfold jP lH at hs;omega
  have aE:=HJ.cell y0;go_wp2_with(fail);go_loopw [18] (fun z wr=>∃(j:Nat) (A:X Ri) (c:Nat) (S:Q Nat),z=J C j/\j<=s.fq.length/\Hid (fw [g3] wc wr)/\Hid (wr.heap[g3]?=Z (F #[G A j c,G B1 s.fu.length d1,G B2 s.Entries.length d2] 28 (0,0)))/\Hid (Has (iL.sl 103) wr [G A j c] (s.fq.take j) S)/\Hid (∀ b∈S,wc.heap.size<=b)) (fun z _=>s.fq.length-(Ry z).toNat)
  case atStart=>exact⟨0,D,0,[],rfl,QX _,fh (fw.refl _ _),fh HJ.ho,fh (Has.nil _ _ _),fh (by simp)⟩
  case round=>
   obtain⟨j,A,c,S,rfl,hj,ho,hb,hH,hS⟩:=hrel;have a4:ft Y wr:=ho.out.fx HJ.hg (fun b hb=>by simp at hb;omega);have aL:wc.heap.size<=wr.heap.size:=ho.out.size;have k0:=oU a4 y0;obtain⟨o0,o1,o2,of,ol⟩:=jc hb.out;obtain⟨z0,z1,z2,zf,aO⟩:=jc (zj er a4);by_cases hlt:j<s.fq.length
   ·have az:=an
    obtain⟨gI,aN,x,Ax,cx,rfl,aG,hxk,m0,m1,p0,aD⟩:=qW az hlt;have n0:=oU a4 m0;have n1:=oU a4 m1;have ag:=Ty.up _ aD a4;have aC:(j:Int)<(s.fq.length:Int):=by omega
    have aM:x.fm.length<=1099511627776:=by have h2:x.fm.length<=lV x:=(by unfold lV lH;omega);have h1:=vM lV hxk;unfold jP at hs;omega
    have aA:gI≠g3:=by omega
    go_upto_region 5 with(fail);have a6:ft wr (wr.alloc (F #[V x.Code,G Ax x.fm.length cx] 103)):=gG;have eV:(wr.alloc (F #[V x.Code,G Ax x.fm.length cx] 103)).heap[wr.heap.size]?=Z (F #[V x.Code,G Ax x.fm.length cx] 103 (0,0)):=QO _ _;obtain⟨b5,ax⟩:∃ b5,wr.heap.size=b5:=⟨_,rfl⟩
    rw[ax] at eV |-;generalize wr.alloc _=QH at a6 eV |-;have ay:=zj hb.out a6;have au:=hH.out.fx a6;have ah:=Ty.up _ ag a6;obtain⟨v0,v1,_,_,vl⟩:=kI eV;clear o0 o1 o2 of ol;obtain⟨o0,o1,o2,of,ol⟩:=jc ay;have ac:g3≠QH.heap.size:=by omega
    have a7:b5≠QH.heap.size:=by omega
    refine jT (fun w'=>QL w' ⟨g3,0,D⟩=Z (G A j c)/\QL w' ⟨b5,0,D⟩=Z (V x.Code)/\QL w' ⟨b5,1,D⟩=Z (G Ax x.fm.length cx)) 12 (by kernel_rfl) (QQ (zc o0) (QQ (zc v0) (zc v1))) (fun hS9=>?_);refine .tq 0 [12] hS9 ?_;refine .tq 1 [12] hS9 ?_;refine .tq 2 [12] hS9 ?_;refine .tq 3 [12] hS9 ?_;refine .tq 5 [12] hS9 ?_;refine .tq 6 [12] hS9 ?_;refine fA.gQ (i:=4) (by kernel_rfl) rfl (fun K hK=>?_)
    ·go_simp
     have hS9:=QQ (zk (zc o0) (F #[] 137)) (QQ (zk (zc v0) (F #[] 137)) (zk (zc v1) (F #[] 137)));refine hK.out _ _ hS9 ?_;clear hK
     try simp only[lay]
     refine fA.gQ (i:=7) (by kernel_rfl) rfl (fun K hK=>?_)
     ·refine zK (L:=x.fm.length) rfl (.tmp 26) (.tmp 28) Az yS (S:=[QH.heap.size]) (Has.emp ji (QO _ _)) (Ty.up _ ah gG) rfl rfl rfl (Rk _).symm (by omega) (by omega) ?_
      intro A6 c6 W6 S6 a3 ab aw;rw[RC] at ab;have q0:=zz o0 gF a3 (by simpa using ac);have q1:=zz v0 gF a3 (by simpa using a7);have q2:=zz v1 gF a3 (by simpa using a7);have aa:ft QH W6:=a3.fx (W0:=QH) gF (fun b hb'=>by simp at hb';omega)
      have ar:∀ b∈S6,QH.heap.size<=b:=fun b hb'=>by
       rcases aw b hb' with h | h
       ·simp at h;omega
       ·have h9:QH.heap.size+1<=b:=by simpa using h
        omega
      have hS9:=QQ q0 (QQ q1 q2);refine hK.out _ _ hS9 ?_;clear hK
      try simp only[lay]
      refine .tq 8 [12] hS9 ?_;refine fA.gQ (i:=9) (by kernel_rfl) rfl (fun K hK=>?_)
      ·go_simp
       have hS9:=QQ (zk q0 (F #[V x.Code,G A6 x.fm.length c6] 103)) (QQ (zk q1 (F #[V x.Code,G A6 x.fm.length c6] 103)) (zk q2 (F #[V x.Code,G A6 x.fm.length c6] 103)));refine hK.out _ _ hS9 ?_;clear hK
       try simp only[lay]
       refine fA.gQ (i:=10) (by kernel_rfl) rfl (fun K hK=>?_)
       ·have av:Has iL (W6.alloc (F #[V x.Code,G A6 x.fm.length c6] 103)) [V x.Code,G A6 x.fm.length c6] x S6:=Has.fx (W:=W6) ⟨yO p0 ab.1,ab.2⟩ gF
        have a9:ft wr (W6.alloc (F #[V x.Code,G A6 x.fm.length c6] 103)):=(a6.trans aa).alloc _;have ad:∀ b∈S,b∉S6:=fun b hb' hm=>by have h1:=ar b hm;have h2:=au.lt b hb';omega
        refine wo (L:=j+1) rfl (.tmp 23) (.tmp 31) Ih (hH.out.fx a9) av ad rfl rfl rfl (by intro j u hu;simpa[go_sem] using hu) rfl (by omega) (by omega) ?_;intro A7 c7 W7 S7 hon hH7 hS7;have aq:∀ k,k<wc.heap.size->k∉S:=fun k hk hm=>by have:=hS.out k hm;omega
        have a8:b5∉S:=fun hm=>by have:=hH.out.lt b5 hm;omega
        have e7:=xW hb.out a9 hon (aq _ (by omega));have hS9:=QQ (zz (zk q0 (F #[V x.Code,G A6 x.fm.length c6] 103)) (ft.refl _) hon (aq _ (by omega))) (QQ (zz (zk q1 (F #[V x.Code,G A6 x.fm.length c6] 103)) (ft.refl _) hon a8) (zz (zk q2 (F #[V x.Code,G A6 x.fm.length c6] 103)) (ft.refl _) hon a8))
        have hlo:∀ b∈S7,wc.heap.size<=b:=fun b hb'=>by
         rcases hS7 b hb' with h | h | h
         ·exact hS.out b h
         ·have:=ar b h
          have:=a6.size;omega
         ·have:=a9.size
          omega
        have ho9:=zs ho.out a9 hon hS.out 0 (G A7 (j+1) c7);have hb9:=jb (i:=0) (v:=G A7 (j+1) c7) e7 rfl;have hH9:=hH7.fJ ((fw.refl [g3] W7).setCell (p:=⟨g3,0,D⟩) (by simp) (G A7 (j+1) c7)) (fun b hb' hm=>by have:=hlo b hb';simp at hm;omega);refine hK.out _ _ hS9 ?_;clear hK
        try simp only[lay]
        refine .tq 11 [12] hS9 ?_;exact tX
   ·obtain rfl:j=s.fq.length:=by omega
    have aC:¬ (s.fq.length:Int)<(s.fq.length:Int):=by omega
    have am:=hH.out;rw[RX] at am;go_wp2_with(fail);have h9:=rB (zj er a4) (G A s.fq.length c) (G B1 s.fu.length d1) (G B2 s.Entries.length d2);obtain⟨r0,r1,r2,_,_⟩:=jc h9.1;have ai:=am.fJ h9.2 (fun b hb' hm=>by have:=hS.out b hb';simp at hm;omega);have aj:=(HJ.ha.fJ ho.out (fun b hb' hm=>by simp at hm;exact HJ.ng (hm ▸ hb'))).fJ h9.2 (fun b hb' hm=>by have:=HJ.la b hb';simp at hm;omega);have ak:=(HJ.hb.fJ ho.out (fun b hb' hm=>by simp at hm;exact HJ.rP (hm ▸ hb'))).fJ h9.2 (fun b hb' hm=>by have:=HJ.lb b hb';simp at hm;omega);have aF:w.heap.size<=Y.heap.size:=a5.size;refine QU (v:=.agg #[G A s.fq.length c,G B1 s.fu.length d1,G B2 s.Entries.length d2]) (by simp[Rd,results78,go_sem,r0,r1,r2]) rfl ⟨A,c,B1,d1,B2,d2,rfl,⟨_,xM ai.1 aj.1 ak.1,?_,?_⟩,h9.2.fx (a5.trans a4) (fun b hb'=>by simp at hb';omega)⟩
    ·refine Rs.2 ⟨Rs.2 ⟨ai.2,aj.2,fun a ha b hb' he=>?_⟩,ak.2,fun a ha b hb' he=>?_⟩
     ·have h1:=hS.out a ha
      have h2:=HJ.ha.lt b hb';omega
     ·rcases Q7.1 ha with ha | ha
      ·have h1:=hS.out a ha
       have h2:=HJ.hb.lt b hb';omega
      ·exact HJ.nJ a ha (he ▸ hb')
    ·intro b hb'
     exact uM
end Go.Proofs.YthgbglbaemelhaaGreat
