/-
  PART.
-/
import Derived.Test.YthgbglbaemelhaaGreatM7LawThreadsApart
import Derived.Deep.Cut
import Derived.Deep.RegionLaw
import Derived.Deep.LoopGhost
set_option linter.unusedVariables false
set_option linter.unusedSimpArgs false
set_option maxRecDepth 100000
set_option maxHeartbeats 8000000
namespace Go.Proofs.YthgbglbaemelhaaGreat
open Value renaming slice->G,int->J,bool->H,string->V
open IntKind renaming i64->Z,wrap->Rg
open Option renaming none->C,some->D,getD_some->Te
open Obj renaming cells->F
open Bool renaming false->I,true->M
open Go renaming World->U,results->Rv,Calls->RD,Addr->RJ,TypeId->R5,yielded->Th,undef->Ug
open World renaming cell?->Rb,frozen?->Rx
open _root_.Int renaming toNat_natCast->Ry
open List renaming length_cons->RA,length_nil->RR
open RowKit renaming intOf->RS,wrap64->SN
open Region renaming wanted->RV,ready->Sn,noSelect->TZ,Mode->Ub,free->Wu
open _root_.Nat renaming add_zero->Sr
open BitVec renaming ofInt->TE
open Tryz
open Go.RowKit
variable {A:X RJ}{P:Program}{a:Act}{all rs:Q fQ}{b last:Int}{c f i j k m:Nat}{listed:Array Bool}{o o2:Oper}{ops:Array Oper}{q x:fQ}{r:gK}{t:gB}{w:U}{xs:Q gB}
section
variable {P:Program} {ops:Array Oper} {Q8:Exit->Act->U->Prop} {md:Ub} {S:U->Prop} {m:Nat}
theorem fA.mM (ho:ops[i]?=D o)
  (h:∀ K:Act->U->Prop,Hid (∀ a w,S w->fA P md ops Q8 S m f (listed.setIfInBounds i M) a w->K a w)->if RV o (Th ops a.tmps)=M then Oper.wp P o a w K Q8 else K (a.put o.dst Ug) w) :
  wpOp P ops Q8 i (fun a' w'=>(i≠m->S w')/\fA P md ops Q8 S m f (listed.setIfInBounds i M) a' w') a w:=
 wpOp_step ho (fun K hK=>h K (fh fun a w hS hT=>hK a w ⟨fun _=>hS,hT⟩))
theorem fA.gL (hr:Sn md ops listed = [i])(ho:ops[i]?=D o)
  (h:∀ K:Act->U->Prop,Hid (∀ a w,S w->fA P md ops Q8 S m f (listed.setIfInBounds i M) a w->K a w)->if RV o (Th ops a.tmps)=M then Oper.wp P o a w K Q8 else K (a.put o.dst Ug) w):fA P md ops Q8 S m (f+1) listed a w:=
 ⟨fun h0=>absurd (hr.symm.trans h0) (by simp),fun j hj=>by
  obtain rfl:j=i:=by simpa[hr] using hj
  exact fA.mM ho h⟩
theorem fA.py (hr:Sn md ops listed = [i,j])(ho:ops[i]?=D o)(ho2:ops[j]?=D o2)
  (h:∀ K:Act->U->Prop,Hid (∀ a w,S w->fA P md ops Q8 S m f (listed.setIfInBounds i M) a w->K a w)->if RV o (Th ops a.tmps)=M then Oper.wp P o a w K Q8 else K (a.put o.dst Ug) w)
  (h2:∀ K:Act->U->Prop,Hid (∀ a w,S w->fA P md ops Q8 S m f (listed.setIfInBounds j M) a w->K a w)->if RV o2 (Th ops a.tmps)=M then Oper.wp P o2 a w K Q8 else K (a.put o2.dst Ug) w):fA P md ops Q8 S m (f+1) listed a w:=
 ⟨fun h0=>absurd (hr.symm.trans h0) (by simp),fun k hk=>by
  have a0:k=i∨k=j:=by simpa[hr] using hk
  rcases a0 with rfl | rfl
  ·exact fA.mM ho h
  ·exact fA.mM ho2 h2⟩
theorem fA.xQ {l:Nat} {o3:Oper} (hr:Sn md ops listed = [i,j,l])(ho:ops[i]?=D o)(ho2:ops[j]?=D o2)(ho3:ops[l]?=D o3)
  (h:∀ K:Act->U->Prop,Hid (∀ a w,S w->fA P md ops Q8 S m f (listed.setIfInBounds i M) a w->K a w)->if RV o (Th ops a.tmps)=M then Oper.wp P o a w K Q8 else K (a.put o.dst Ug) w)
  (h2:∀ K:Act->U->Prop,Hid (∀ a w,S w->fA P md ops Q8 S m f (listed.setIfInBounds j M) a w->K a w)->if RV o2 (Th ops a.tmps)=M then Oper.wp P o2 a w K Q8 else K (a.put o2.dst Ug) w)
  (h3:∀ K:Act->U->Prop,Hid (∀ a w,S w->fA P md ops Q8 S m f (listed.setIfInBounds l M) a w->K a w)->if RV o3 (Th ops a.tmps)=M then Oper.wp P o3 a w K Q8 else K (a.put o3.dst Ug) w):fA P md ops Q8 S m (f+1) listed a w:=
 ⟨fun h0=>absurd (hr.symm.trans h0) (by simp),fun k hk=>by
  have a0:k=i∨k=j∨k=l:=by simpa[hr] using hk
  rcases a0 with rfl | rfl | rfl
  ·exact fA.mM ho h
  ·exact fA.mM ho2 h2
  ·exact fA.mM ho3 h3⟩
end
structure J3 {α β:Type}(T:Ty α)(Q5:Ty β)(e f:R5)(Y W:U)(va vb:Value)(xa:Q α)(xb:Q β)(Sa Sb:Q Nat)(go:Nat)(o:Obj):Prop where
 ha:Has (T.sl e) W [va] xa Sa
 hb:Has (Q5.sl f) W [vb] xb Sb
 sA:∀ b∈Sa,b∉Sb
 la:∀ b∈Sa,Y.heap.size<=b
 lb:∀ b∈Sb,Y.heap.size<=b
 hg:fu Y W
 ho:W.heap[go]?=D o
 nt:go∉Sa
 sB:go∉Sb
section
variable {α β:Type} {T:Ty α} {Q5:Ty β} {e f:R5} {Y W W':U} {va vb:Value} {xa:Q α} {xb:Q β} {Sa Sb:Q Nat} {go:Nat} {o:Obj}
theorem J3.fy (h:J3 T Q5 e f Y W va vb xa xb Sa Sb go o)(hg:fu W W'):J3 T Q5 e f Y W' va vb xa xb Sa Sb go o:=
 ⟨h.ha.fy hg,h.hb.fy hg,h.sA,h.la,h.lb,h.hg.trans hg,zj h.ho hg,h.nt,h.sB⟩
theorem J3.start (ho:Y.heap[go]?=D o):J3 T Q5 e f Y Y (G C 0 0) (G C 0 0) [] [] [] [] go o:=
 ⟨Has.nil _ _ _,Has.nil _ _ _,II,II,II,fu.refl _,ho,II,II⟩
theorem J3.lk (h:J3 T Q5 e f Y W va vb xa xb Sa Sb go o):J3 T Q5 e f Y (W.alloc (F #[] e)) (G (D ⟨W.heap.size,0,C⟩) 0 0) vb [] xb [W.heap.size] Sb go o:=by
 have hl:=(blt h.ho)
 refine⟨Has.Wy T (Re _ _),h.hb.fy ((fu.refl _).alloc _),fun b hb hm=>?_,fun b hb=>?_,h.lb,h.hg.alloc _,zj h.ho ((fu.refl _).alloc _),?_,h.sB⟩
 ·have:=h.hb.lt b hm;simp at hb;omega
 ·have:=h.hg.size;simp at hb;omega
 ·simp;omega
theorem J3.jb (h:J3 T Q5 e f Y W va vb xa xb Sa Sb go o):J3 T Q5 e f Y (W.alloc (F #[] f)) va (G (D ⟨W.heap.size,0,C⟩) 0 0) xa [] Sa [W.heap.size] go o:=by
 have hl:=(blt h.ho)
 refine⟨h.ha.fy ((fu.refl _).alloc _),Has.Wy Q5 (Re _ _),fun b hb hm=>?_,h.la,fun b hb=>?_,h.hg.alloc _,zj h.ho ((fu.refl _).alloc _),h.nt,?_⟩
 ·have:=h.ha.lt b hb;simp at hm;omega
 ·have:=h.hg.size;simp at hb;omega
 ·simp;omega
theorem J3.kp {cs:Array Value} {t:R5} (h:J3 T Q5 e f Y W va vb xa xb Sa Sb go o):J3 T Q5 e f Y (W.alloc (F cs t)) va vb xa xb Sa Sb W.heap.size (F cs t (0,0)):=by
 refine⟨h.ha.fy ((fu.refl _).alloc _),h.hb.fy ((fu.refl _).alloc _),h.sA,h.la,h.lb,h.hg.alloc _,Re _ _,fun hm=>?_,fun hm=>?_⟩
 ·have:=h.ha.lt _ hm;omega
 ·have:=h.hb.lt _ hm;omega
theorem J3.oM {va':Value} {xa':Q α} {Sa':Q Nat} (h:J3 T Q5 e f Y W va vb xa xb Sa Sb go o)(hon:fx Sa W W')(hH:Has (T.sl e) W' [va'] xa' Sa')(hS:∀ b∈Sa',b∈Sa∨W.heap.size<=b):J3 T Q5 e f Y W' va' vb xa' xb Sa' Sb go o:=by
 have hl:=(blt h.ho)
 refine⟨hH,h.hb.fJ hon (fun b hb hm=>h.sA b hm hb),fun b hb hm=>?_,fun b hb=>?_,h.lb,hon.fy h.hg h.la,(hon.block go hl h.nt).trans h.ho,fun hm=>?_,h.sB⟩
 ·rcases hS b hb with h1 | h1
  ·exact h.sA b h1 hm
  ·have:=h.hb.lt b hm;omega
 ·rcases hS b hb with h1 | h1
  ·exact h.la b h1
  ·have:=h.hg.size;omega
 ·rcases hS go hm with h1 | h1
  ·exact h.nt h1
  ·omega
theorem J3.xH {vb':Value} {xb':Q β} {Sb':Q Nat} (h:J3 T Q5 e f Y W va vb xa xb Sa Sb go o)(hon:fx Sb W W')(hH:Has (Q5.sl f) W' [vb'] xb' Sb')(hS:∀ b∈Sb',b∈Sb∨W.heap.size<=b):J3 T Q5 e f Y W' va vb' xa xb' Sa Sb' go o:=by
 have hl:=(blt h.ho)
 refine⟨h.ha.fJ hon (fun b hb hm=>h.sA b hb hm),hH,fun b hb hm=>?_,h.la,fun b hb=>?_,hon.fy h.hg h.lb,(hon.block go hl h.sB).trans h.ho,h.nt,fun hm=>?_⟩
 ·rcases hS b hm with h1 | h1
  ·exact h.sA b hb h1
  ·have:=h.ha.lt b hb;omega
 ·rcases hS b hb with h1 | h1
  ·exact h.lb b h1
  ·have:=h.hg.size;omega
 ·rcases hS go hm with h1 | h1
  ·exact h.sB h1
  ·omega
theorem J3.cell {p:RJ}{v:Value}(h:J3 T Q5 e f Y W va vb xa xb Sa Sb go o)(hc:Y.cell? p=D v):W.cell? p=D v:=by
 obtain⟨os,d,hw⟩:=h.hg;rw[hw];exact zd hc os d
theorem J3.store {o':Obj} (h:J3 T Q5 e f Y W va vb xa xb Sa Sb go o)(hon:fx [go] W W')(ho':W'.heap[go]?=D o')(hgo:Y.heap.size<=go):J3 T Q5 e f Y W' va vb xa xb Sa Sb go o':=
 ⟨h.ha.fJ hon (fun b hb hm=>h.nt (by simp at hm;exact hm ▸ hb)),h.hb.fJ hon (fun b hb hm=>h.sB (by simp at hm;exact hm ▸ hb)),h.sA,h.la,h.lb,hon.fy h.hg (fun b hb=>by simp at hb;omega),ho',h.nt,h.sB⟩
end
def mJ (s:N):Nat->Int
 | 0=>7
 | k+1=>(mJ s k*257+lL s k+1) % 1000000007
theorem I3 (s:N):∀ k,0<=mJ s k/\mJ s k<=1000000006
 | 0=>⟨by show (0:Int)<=7;omega,by show (7:Int)<=1000000006;omega⟩
 | k+1=>⟨by unfold mJ;omega,by unfold mJ;omega⟩
theorem zhv {i:gv} (hs:i.Code.size<=1099511627776):RD prog 125 #[.agg #[V i.Code,G A i.fm.length c]] w fun r w'=>r=.returned (J Z (mJ i.Code i.Code.size))/\fu w w':=by
 have a2:fu w (w.alloc (F #[V i.Code,G A i.fm.length c] 103)):=gG;have eb:=Re w (F #[V i.Code,G A i.fm.length c] 103);obtain⟨g,hg⟩:∃ g,w.heap.size=g:=⟨_,rfl⟩
 go_enter func125,ntmps125;go_wp2;rw[hg] at eb;generalize w.alloc _=Y at a2 eb |-;obtain⟨y0,y1,a8,a9,yl⟩:=jT eb;obtain⟨s,a0⟩:∃ s,i.Code=s:=⟨_,rfl⟩
 rw[a0] at y0 hs |-;have a3:=fh a0;clear a0 eb;go_loopw [3,4] (fun a b wr=>∃ k:Nat,a=J Z (mJ s k)/\b=J Z k/\k<=s.size/\wr=Y) (fun _ b _=>s.size-(RS b).toNat)
 case atStart=>exact⟨0,rfl,rfl,Rl _,rfl⟩
 case round=>
  obtain⟨k,rfl,rfl,hk,rfl⟩:=hrel;by_cases hlt:k<s.size
  ·have hb:=yg hlt
   have a7:0<=(s[k].toNat:Int)/\(s[k].toNat:Int)<=255:=by have:=s[k].toNat_lt;omega
   have a4:=I3 s k;obtain⟨u,hu⟩:∃ u,mJ s k=u:=⟨_,rfl⟩
   have hv:(u*257+(s[k].toNat:Int)+1) % 1000000007=mJ s (k+1):=by rw[mJ,hb,hu]
   have a6:(u*257+(s[k].toNat:Int)+1).tmod 1000000007=mJ s (k+1):=by rw[Int.tmod_eq_emod_of_nonneg K9,hv]
   rw[hu] at a4 |-;obtain⟨v,a1⟩:∃ v,mJ s (k+1)=v:=⟨_,rfl⟩
   rw[a1] at hv a6;have HV:=fh a1;clear hu hb a1;have a5:(k:Int)<(s.size:Int):=K9;go_wp2_with(fail);go_roundw;exact⟨k+1,by rw[HV.out],Ar,K9,trivial⟩;exact gM
  ·obtain rfl:k=s.size:=K9
   have a5:¬ ((s.size:Int)<(s.size:Int)):=K9;go_wp2_with(fail);go_ret;exact⟨nV (by rw[a3.out]),a2⟩
def qQ (i:gv)(d:gE):Bool:=decide (d.Id=mJ i.Code i.Code.size) && decide (i.fm=d.fm)
theorem su {g:Prop} (f:g:=by
  go_wp2_with(fail)
  go_quiet (fail)
  go_wp2_with(fail)
  go_ret
  refine⟨zp ?_,hG0.trans gG⟩
  rw[HF2.out]
  symm
  simp only[SJ]
  intro h8
  have h9:=HX.out.symm.trans ((Ta (fun l=>l[k]?) h8).trans HY.out)
  simp at h9
  exact HXY.out h9):g:=f
theorem zjO {i:gv} {d:gE} {B0 B1 B2 B3:X RJ} {e0 e1 e2 e3:Nat} (hx:(jm.sl 137).R w w.heap.size [G A i.fm.length c] i.fm)(hy:(jm.sl 137).R w w.heap.size [G B0 d.fm.length e0] d.fm)(hs:i.Code.size<=1099511627776) :
  RD prog 94 #[.agg #[V i.Code,G A i.fm.length c],.agg #[J Z d.Id,G B0 d.fm.length e0,G B1 d.fW.length e1,G B2 d.AC.length e2,G B3 d.fI.length e3]] w fun r w'=>r=.returned (H (qQ i d))/\fu w w':=by
 have hG0:fu w ((w.alloc (F #[V i.Code,G A i.fm.length c] 103)).alloc (F #[J Z d.Id,G B0 d.fm.length e0,G B1 d.fW.length e1,G B2 d.AC.length e2,G B3 d.fI.length e3] 108)):=gG;have eb:((w.alloc (F #[V i.Code,G A i.fm.length c] 103)).alloc (F #[J Z d.Id,G B0 d.fm.length e0,G B1 d.fW.length e1,G B2 d.AC.length e2,G B3 d.fI.length e3] 108)).heap[w.heap.size]?=D (F #[V i.Code,G A i.fm.length c] 103 (0,0)):=zj (Re w _) gF
 have ed:((w.alloc (F #[V i.Code,G A i.fm.length c] 103)).alloc (F #[J Z d.Id,G B0 d.fm.length e0,G B1 d.fW.length e1,G B2 d.AC.length e2,G B3 d.fI.length e3] 108)).heap[w.heap.size+1]?=D (F #[J Z d.Id,G B0 d.fm.length e0,G B1 d.fW.length e1,G B2 d.AC.length e2,G B3 d.fI.length e3] 108 (0,0)):=by
  have h:=Re (w.alloc (F #[V i.Code,G A i.fm.length c] 103)) (F #[J Z d.Id,G B0 d.fm.length e0,G B1 d.fW.length e1,G B2 d.AC.length e2,G B3 d.fI.length e3] 108);rw[Rz] at h;exact h
 have kx:=Ty.up _ hx hG0;have ky:=Ty.up _ hy hG0;obtain⟨g,hg⟩:∃ g,w.heap.size=g:=⟨_,rfl⟩
 obtain⟨u,hu⟩:∃ u,mJ i.Code i.Code.size=u:=⟨_,rfl⟩
 have HU:=fh hu;have HF:=fh (show qQ i d=(decide (d.Id=u) && decide (i.fm=d.fm)) from by unfold qQ;rw[hu]);clear hu;go_enter func94,ntmps94;go_upto_region 1 with(fail);rw[hg] at eb ed;generalize ((w.alloc _).alloc _)=Y at hG0 eb ed kx ky |-;clear hx hy;have au:d.fm.length<=9223372036854775807:=by obtain⟨A9,c9,h1,h2,h3⟩:=kJ ky;omega
 obtain⟨y0,y1,av,aw,yl⟩:=jT eb;obtain⟨z0,z1,z2,z3,z4,zf,zl⟩:=jg ed;by_cases hid:d.Id=u
 ·have hq:(d.Id != u)=I:=by simp[hid]
  have a1:decide (d.Id=u)=M:=by simp[hid]
  have HF2:=fh (show qQ i d=decide (i.fm=d.fm) from by rw[HF.out,a1,TP]);clear hid a1;by_cases hl:d.fm.length=i.fm.length
  ·have ag:((d.fm.length:Int) != (i.fm.length:Int))=I:=by simp[hl]
   have HL:=fh hl;clear hl
   go_region_held3 (fun w'=>Rb w' ⟨g,0,C⟩=D (V i.Code)/\Rb w' ⟨g,1,C⟩=D (G A i.fm.length c)/\Rb w' ⟨g+1,0,C⟩=D (J Z d.Id)/\Rb w' ⟨g+1,1,C⟩=D (G B0 d.fm.length e0)) ((repeat' apply Rf) <;> (first | ((repeat (first | assumption | with_reducible refine zd ?_ _ _ | with_reducible refine zo ?_ _ | with_reducible refine zc ?_));done) | (simp[go_sem];done))) (first
    | (go_at_call 125;(with_reducible refine(zhv (i:=i) hs).mono ?_);rw[HU.out];rintro e w1 ⟨rfl,aa,d1,rfl⟩))
   go_wp2_with(fail);go_loopw [5] (fun a wr=>∃ k:Nat,k<=d.fm.length/\a=J Z k/\Hid (fu Y wr)/\Hid (i.fm.take k=d.fm.take k)) (fun a _=>d.fm.length-(RS a).toNat)
   case atStart=>exact⟨0,Rl _,rfl,fh gG,fh II⟩
   case round=>
    obtain⟨k,hk,rfl,hG,HT⟩:=hrel;obtain⟨os,dd,rfl⟩:=hG.out;clear hG;have z0:=zd z0 os dd;have z1:=zd z1 os dd;have y0:=zd y0 os dd;have y1:=zd y1 os dd;by_cases hlt:k<d.fm.length
    ·have a0:k<i.fm.length:=by rw[<-HL.out];exact hlt
     obtain⟨gx,aj,x,rfl,ar,a5,a2,a3,a4,al,am,an⟩:=qD kx a0;obtain⟨gy,ak,y,rfl,ad,a9,a6,a7,a8,ao,ap,aq⟩:=qD ky hlt;have HX:=fh a5;have HY:=fh a9;clear a5 a9 kx ky;have ae:(k:Int)<(d.fm.length:Int):=K9;have af:(k:Int)<(i.fm.length:Int):=K9;have q0:=zd a2 os dd;have q1:=zd a3 os dd;have q2:=zd a4 os dd;have r0:=zd a6 os dd;have r1:=zd a7 os dd;have r2:=zd a8 os dd;clear a2 a3 a4 a6 a7 a8;by_cases hs':y.pu=x.pu
     ·have ah:(y.pu.toList == x.pu.toList)=M:=by rw[lC];simp[hs']
      by_cases hc:y.kw=x.kw
      ·have ac:(y.kw == x.kw)=M:=by simp[hc]
       by_cases hz:y.gH=x.gH
       ·have ai:(y.gH == x.gH)=M:=by simp[hz]
        have HXY:=fh (show x=y from by cases x;cases y;simp only at hs' hc hz;rw[hs',hc,hz]);clear hs' hc hz;go_wp2_with(fail);go_quiet (fail);go_wp2_with(fail);go_roundw;exact⟨k+1,K9,Ar,fh gG,fh (by rw[wD HX.out,wD HY.out,HT.out,HXY.out])⟩;exact gM
       ·have ai:(y.gH == x.gH)=I:=by simp[hz]
        have HXY:=fh (show x≠y from by rintro rfl;exact hz rfl);clear hs' hc hz;exact su
      ·have ac:(y.kw == x.kw)=I:=by simp[hc]
       have HXY:=fh (show x≠y from by rintro rfl;exact hc rfl);clear hs' hc;exact su
     ·have ah:(y.pu.toList == x.pu.toList)=I:=by rw[lC];simp[hs']
      have HXY:=fh (show x≠y from by rintro rfl;exact hs' rfl);clear hs';exact su
    ·have ae:¬ ((k:Int)<(d.fm.length:Int)):=K9
     go_wp2_with(fail);go_ret;refine⟨zp ?_,hG0.trans gG⟩;have:k=d.fm.length:=K9;subst this;have h1:=HT.out;rw[HL.out] at h1;simp only[SC] at h1;rw[<-HL.out] at h1;simp at h1;rw[HF2.out];simp[h1]
  ·have ag:((d.fm.length:Int) != (i.fm.length:Int))=M:=by simp;omega
   have ab:=fh (show qQ i d=I from by rw[HF2.out];simp only[SJ];intro h;exact hl (Ta List.length h).symm);clear hl
   go_region_held3 (fun w'=>Rb w' ⟨g,0,C⟩=D (V i.Code)/\Rb w' ⟨g,1,C⟩=D (G A i.fm.length c)/\Rb w' ⟨g+1,0,C⟩=D (J Z d.Id)/\Rb w' ⟨g+1,1,C⟩=D (G B0 d.fm.length e0)) ((repeat' apply Rf) <;> (first | ((repeat (first | assumption | with_reducible refine zd ?_ _ _ | with_reducible refine zo ?_ _ | with_reducible refine zc ?_));done) | (simp[go_sem];done))) (first
    | (go_at_call 125;(with_reducible refine(zhv (i:=i) hs).mono ?_);rw[HU.out];rintro e w1 ⟨rfl,aa,d1,rfl⟩))
   go_wp2_with(fail);go_ret;exact⟨zp ab.out.symm,hG0.trans gG⟩
 ·have hq:(d.Id != u)=M:=by simp[hid]
  have HF2:=fh (show qQ i d=I from by rw[HF.out];simp[hid]);clear hid
  first | (go_region_law (first | (go_simp;go_at_call 125;refine(zhv (i:=i) hs).mono ?_;rw[HU.out];rintro e w1 ⟨rfl,aa,d1,rfl⟩))) | fail
  all_goals
   go_wp2_with(fail)
   go_ret
   exact⟨zp HF2.out.symm,hG0.trans gG⟩
theorem fA.skip {Q8:Exit->Act->U->Prop} {md:Ub} {S:U->Prop} {oi:Oper} {cs:Q Nat} (hi:ops[i]?=D oi)(hsel:TZ ops=M)(hf:Wu md ops listed i=M)(hr:(Sn md ops listed).contains i=M)
  (hlk:rM md ops m i cs=M) (hne:cs.isEmpty=I) (hun:um listed cs=M) (hQ:∀ c a w,Q8 (.panic c) (a.put oi.dst Ug) w->Q8 (.panic c) a w) (hS:S w)
  (hw:RV oi (Th ops a.tmps)=I)
  (h:fA P md ops Q8 S m f (listed.setIfInBounds i M) (a.put oi.dst Ug) w):fA P md ops Q8 S m (f+1) listed a w:=
 fA.first hi hsel hlk (by cases cs <;> simp at hne |-) hQ f listed a w (Region.free_spec hi hf) (fun c hc=>by
  simp only[um,Td,Uq] at hun
  exact hun c hc) (by simpa using hr) (.inr ⟨hw,rfl⟩) hS h
theorem fA.sk {Q8:Exit->Act->U->Prop} {md:Ub} {S:U->Prop} (i:Nat)(cs:Q Nat){oi:Oper}{f:Nat}{listed:Array Bool}{a a2:Act}{w:U}(hS:S w)(h:fA P md ops Q8 S m f (listed.setIfInBounds i M) a2 w)
  (hi:ops[i]?=D oi:=by exact rfl) (hsel:TZ ops=M:=by kernel_rfl) (hf:Wu md ops listed i=M:=by kernel_rfl) (hr:(Sn md ops listed).contains i=M:=by kernel_rfl) (hlk:rM md ops m i cs=M:=by kernel_rfl) (hne:cs.isEmpty=I:=by exact rfl) (hun:um listed cs=M:=by kernel_rfl)
  (hQ:∀ c a w,Q8 (.panic c) (a.put oi.dst Ug) w->Q8 (.panic c) a w:=by exact fun _ _ _ h=>h) (hw:RV oi (Th ops a.tmps)=I:=by kernel_rfl) (ha:a.put oi.dst Ug=a2:=by(try simp only[lay]) <;> exact rfl):fA P md ops Q8 S m (f+1) listed a w:=
 fA.skip hi hsel hf hr hlk hne hun hQ hS hw (ha ▸ h)
theorem fA.sq {Q8:Exit->Act->U->Prop} {md:Ub} {S:U->Prop} (i:Nat)(cs:Q Nat){oi:Oper}{f:Nat}{listed:Array Bool}{a a2:Act}{w:U}(hS:S w)(h:fA P md ops Q8 S m f (listed.setIfInBounds i M) a2 w)
  (hi:ops[i]?=D oi:=by exact rfl) (hsel:TZ ops=M:=by kernel_rfl) (hf:Wu md ops listed i=M:=by kernel_rfl) (hr:(Sn md ops listed).contains i=M:=by kernel_rfl) (hlk:rM md ops m i cs=M:=by kernel_rfl) (hne:cs.isEmpty=I:=by exact rfl) (hun:um listed cs=M:=by kernel_rfl)
  (hQ:∀ c a w,Q8 (.panic c) (a.put oi.dst Ug) w->Q8 (.panic c) a w:=by exact fun _ _ _ h=>h) (hw:RV oi (Th ops a.tmps)=I:=by first | rfl | kernel_rfl) (ha:a.put oi.dst Ug=a2:=by(try simp only[lay]) <;> exact rfl):fA P md ops Q8 S m (f+1) listed a w:=
 fA.skip hi hsel hf hr hlk hne hun hQ hS hw (ha ▸ h)
theorem za {a b:U} (h:fu a b){p:RJ}{v:Value}(hp:a.cell? p=D v):b.cell? p=D v:=by
 obtain⟨os,d,rfl⟩:=h;exact zd hp os d
theorem iL {W:U} {g:Nat} {o0 o1 o2 o3:Value} {e:R5} (h:W.heap[g]?=D (F #[o0,o1,o2,o3] e (0,0))) :
  Rb W ⟨g,0,C⟩=D o0/\Rb W ⟨g,1,C⟩=D o1/\Rb W ⟨g,2,C⟩=D o2/\Rb W ⟨g,3,C⟩=D o3/\(∀ j,Rx W ⟨g,j,C⟩=I)/\g<W.heap.size:=by
 refine⟨?_,?_,?_,?_,fun j=>by simp[Rx,h],(blt h)⟩
 all_goals
  rw[Sw W g _ _ _ (0,0) h]
  rfl
def pG (a:iZ):Bool:=zZ a.fk && decide (a.fV.length=2) && (match a.fk.fo,a.fV with
 | [i0,i1],[d0,d1]=>qQ i0 d0 && qQ i1 d1
 | _,_=>I)
theorem Ja {α:Type} {xs:Q α} {x y:α} (h:xs.length=2)(h0:xs[0]?=D x)(h1:xs[1]?=D y):xs = [x,y]:=by
 match xs,h with
 | [p,q],_=>
  simp at h0 h1;rw[h0,h1]
theorem Lf {a:iZ} {i0 i1:gv} {d0 d1:gE} (hq:zZ a.fk=M)(hd:a.fV.length=2)(hi0:a.fk.fo[0]?=D i0)(hi1:a.fk.fo[1]?=D i1)(hd0:a.fV[0]?=D d0)(hd1:a.fV[1]?=D d1) :
  pG a=(qQ i0 d0 && qQ i1 d1):=by
 have h1:a.fk.fo.length=2:=by
  have h:=hq;simp only[zZ,Rq,RC] at h;omega
 unfold pG;rw[hq,Ja h1 hi0 hi1,Ja hd hd0 hd1];simp
theorem vd {g:Prop} (f:g:=by
  go_wp2_with(go_at_call 41;(with_reducible refine(zbG (s:=a.fk) z0 z1 z2 hs).mono ?_);rw[HQ.out];rintro e v0 ⟨rfl,hg0⟩;have y0:=za hg0 y0;have y1:=za hg0 y1;have y2:=za hg0 y2;have y3:=za hg0 y3)
  go_ret
  exact⟨zp (by rw[HR.out]),hG0.trans hg0⟩):g:=f
theorem zsJ {a:iZ} {A0 A1 A2 A3:X RJ} {c0 c1 c2 c3:Nat} (h0:(iG.sl 103).R w w.heap.size [G A0 a.fk.fo.length c0] a.fk.fo)(h1:(zr.sl 3).R w w.heap.size [G A1 a.fk.ft.length c1] a.fk.ft)
  (h2:(zr.sl 3).R w w.heap.size [G A2 a.fk.ii.length c2] a.fk.ii) (h3:(mn.sl 108).R w w.heap.size [G A3 a.fV.length c3] a.fV) (hs:jE a.fk<=1099511627776) :
  RD prog 56 #[.agg #[G A0 a.fk.fo.length c0,G A1 a.fk.ft.length c1,G A2 a.fk.ii.length c2,G A3 a.fV.length c3]] w fun r w'=>r=.returned (H (pG a))/\fu w w':=by
 have hG0:fu w (w.alloc (F #[G A0 a.fk.fo.length c0,G A1 a.fk.ft.length c1,G A2 a.fk.ii.length c2,G A3 a.fV.length c3] 31)):=gG;have eb:=Re w (F #[G A0 a.fk.fo.length c0,G A1 a.fk.ft.length c1,G A2 a.fk.ii.length c2,G A3 a.fV.length c3] 31);have z0:=Ty.up _ h0 hG0;have z1:=Ty.up _ h1 hG0;have z2:=Ty.up _ h2 hG0;have z3:=Ty.up _ h3 hG0;obtain⟨g,hg⟩:∃ g,w.heap.size=g:=⟨_,rfl⟩
 obtain⟨q,hq⟩:∃ q,zZ a.fk=q:=⟨_,rfl⟩
 have HQ:=fh hq;go_enter func56,ntmps56;go_upto_region 1 with(fail);rw[hg] at eb;generalize w.alloc _=Y at hG0 eb z0 z1 z2 z3 |-;clear h0 h1 h2 h3;obtain⟨y0,y1,y2,y3,yf,yl⟩:=iL eb;cases q with
 | false=>
  have HR:=fh (show pG a=I from by unfold pG;rw[hq];rfl);clear hq;exact vd
 | true=>
  by_cases hd2n:a.fV.length=2
  case neg=>
   have HR:=fh (show pG a=I from by unfold pG;rw[Rk hd2n];simp);have aX:((a.fV.length:Int) == 2)=I:=by simp;omega
   have aY:((a.fV.length:Int) != 2)=M:=by simp;omega
   clear hd2n hq;exact vd
  case pos=>
   obtain⟨aq,ar⟩:a.fk.fo.length=2/\∀ i∈a.fk.fo,i.Code.size<=1000000:=by
    have h1:=hq;simp only[zZ,Rq,RC,Td] at h1;refine⟨K9,fun i hi=>?_⟩;have h2:=h1.1.1.1.2 i hi;simp only[jw,Rq,RC] at h2;exact h2.1
   have aX:((a.fV.length:Int) == 2)=M:=by simp;omega
   have aY:((a.fV.length:Int) != 2)=I:=by simp;omega
   have b1:(0:Int)<(a.fk.fo.length:Int):=K9;have b2:(1:Int)<(a.fk.fo.length:Int):=K9;have b3:(0:Int)<(a.fV.length:Int):=K9;have b4:(1:Int)<(a.fV.length:Int):=K9;have b5:0<a.fk.fo.length:=K9;have b6:1<a.fk.fo.length:=K9;have b7:0<a.fV.length:=K9;have b8:1<a.fV.length:=K9;obtain⟨gi,oi,i0,C0,k0,ak,_,ao,a2,a3,_,aT⟩:=qI z0 (k:=0) K9;obtain⟨b0,ba,i1,C1,k1,ah,_,ap,a4,a5,_,aU⟩:=qI z0 (k:=1) K9;obtain⟨gd,od,d0,aD,aL,aE,aM,aF,aN,aG,aO,al,_,ay,a6,a7,a8,a9,aa,_,aV,_,_,_⟩:=Is z3 (k:=0) K9;obtain⟨aZ,b9,d1,aH,aP,aI,aQ,aJ,aR,aK,aS,ai,_,az,ab,ac,ad,ae,af,_,aW,_,_,_⟩:=Is z3 (k:=1) K9;rw[ak] at ah;injection ah with ah
   injection ah with q1 q2
   subst q1 q2;rw[al] at ai;injection ai with ai
   injection ai with q1 q2
   subst q1 q2;simp only[UT,Sr,Ur,U5,Nat.reduceAdd] at a2 a3 a4 a5 a6 a7 a8 a9 aa ab ac ad ae af;have au:i0.Code.size<=1099511627776:=by have:=ar i0 (Rt ao);omega
   have av:i1.Code.size<=1099511627776:=by have:=ar i1 (Rt ap);omega
   have aw:=fh (Lf hq hd2n ao ap ay az);obtain⟨f0,aB⟩:∃ b,qQ i0 d0=b:=⟨_,rfl⟩
   have aj:=fh aB;obtain⟨f1,aC⟩:∃ b,qQ i1 d1=b:=⟨_,rfl⟩
   have ax:=fh aC;rw[ak] at y0 z0;rw[al] at y3;clear hq ao ap ay az aB aC aq ar hd2n ak al;go_upto_region 3 with(go_at_call 41;(with_reducible refine(zbG (s:=a.fk) z0 z1 z2 hs).mono ?_);rw[HQ.out];rintro e v0 ⟨rfl,hg0⟩;have y0:=za hg0 y0;have y1:=za hg0 y1;have y2:=za hg0 y2;have y3:=za hg0 y3);have a2:=za hg0 a2;have a3:=za hg0 a3;have a6:=za hg0 a6;have a7:=za hg0 a7;have a8:=za hg0 a8;have a9:=za hg0 a9;have aa:=za hg0 aa;have a4:=za hg0 a4;have a5:=za hg0 a5;have ab:=za hg0 ab;have ac:=za hg0 ac;have ad:=za hg0 ad;have ae:=za hg0 ae;have af:=za hg0 af;refine zX (fun w'=>Rb w' ⟨g,0,C⟩=D (G (D ⟨gi,oi,C⟩) a.fk.fo.length c0)/\Rb w' ⟨g,1,C⟩=D (G A1 a.fk.ft.length c1)/\Rb w' ⟨g,2,C⟩=D (G A2 a.fk.ii.length c2)/\Rb w' ⟨g,3,C⟩=D (G (D ⟨gd,od,C⟩) a.fV.length c3)/\Rb w' ⟨gi,oi,C⟩=D (V i0.Code)/\Rb w' ⟨gi,oi+1,C⟩=D (G C0 i0.fm.length k0)/\Rb w' ⟨gd,od,C⟩=D (J Z d0.Id)/\Rb w' ⟨gd,od+1,C⟩=D (G aD d0.fm.length aL)/\Rb w' ⟨gd,od+2,C⟩=D (G aE d0.fW.length aM)/\Rb w' ⟨gd,od+3,C⟩=D (G aF d0.AC.length aN)/\Rb w' ⟨gd,od+4,C⟩=D (G aG d0.fI.length aO)/\Rb w' ⟨gi,oi+2,C⟩=D (V i1.Code)/\Rb w' ⟨gi,oi+3,C⟩=D (G C1 i1.fm.length k1)/\Rb w' ⟨gd,od+5,C⟩=D (J Z d1.Id)/\Rb w' ⟨gd,od+6,C⟩=D (G aH d1.fm.length aP)/\Rb w' ⟨gd,od+7,C⟩=D (G aI d1.fW.length aQ)/\Rb w' ⟨gd,od+8,C⟩=D (G aJ d1.AC.length aR)/\Rb w' ⟨gd,od+9,C⟩=D (G aK d1.fI.length aS)) 22 Fs (Rf (zc y0) (Rf (zc y1) (Rf (zc y2) (Rf (zc y3) (Rf (zc a2) (Rf (zc a3) (Rf (zc a6) (Rf (zc a7) (Rf (zc a8) (Rf (zc a9) (Rf (zc aa) (Rf (zc a4) (Rf (zc a5) (Rf (zc ab) (Rf (zc ac) (Rf (zc ad) (Rf (zc ae) (zc af)))))))))))))))))) (fun hH=>?_);have aA:fu v0 v0.drew:=(fu.refl _).drew;clear y0 y1 y2 y3 a2 a3 a6 a7 a8 a9 aa a4 a5 ab ac ad ae af;generalize v0.drew=wx at aA hH |-;obtain⟨y0,y1,y2,y3,a2,a3,a6,a7,a8,a9,aa,a4,a5,ab,ac,ad,ae,af⟩:=id hH;have an:=hg0.trans aA;refine .tk 0 [22] hH ?_;refine .tk 1 [22] hH ?_;refine .tk 2 [22] hH ?_;refine .tk 3 [22] hH ?_;refine .tk 4 [22] hH ?_;refine .tk 5 [22] hH ?_;refine .tk 6 [22] hH ?_;refine .tk 7 [22] hH ?_;refine .tk 8 [22] hH ?_;refine fA.one (i:=9) Fs rfl (fun K hK=>?_);go_simp;go_at_call 94;(with_reducible refine(zjO (i:=i0) (d:=d0) (Ty.up _ aT an) (Ty.up _ aV an) au).mono ?_);rw[aj.out];rintro e v1 ⟨rfl,a0⟩;have ag:=an.trans a0;have y0:=za a0 y0;have y1:=za a0 y1;have y2:=za a0 y2;have y3:=za a0 y3;have a2:=za a0 a2;have a3:=za a0 a3;have a6:=za a0 a6;have a7:=za a0 a7;have a8:=za a0 a8;have a9:=za a0 a9;have aa:=za a0 aa;have a4:=za a0 a4;have a5:=za a0 a5;have ab:=za a0 ab;have ac:=za a0 ac;have ad:=za a0 ad;have ae:=za a0 ae;have af:=za a0 af;refine hK.out _ _ (Rf y0 (Rf y1 (Rf y2 (Rf y3 (Rf a2 (Rf a3 (Rf a6 (Rf a7 (Rf a8 (Rf a9 (Rf aa (Rf a4 (Rf a5 (Rf ab (Rf ac (Rf ad (Rf ae af))))))))))))))))) (fun hI=>?_);clear hK hH;have hH:=hI
   try simp only[lay]
   refine .tk 10 [22] hH ?_;cases f0 with
   | false=>
    have HR:=fh (show pG a=I from by rw[aw.out,aj.out];rfl);refine .sk 11 [22] hH ?_;refine .sk 12 [22] hH ?_;refine .sk 13 [22] hH ?_;refine .sk 14 [22] hH ?_;refine .sk 15 [22] hH ?_;refine .sk 16 [22] hH ?_;refine .sk 17 [22] hH ?_;refine .sk 18 [22] hH ?_;refine .sk 19 [22] hH ?_;refine .sk 20 [22] hH ?_;refine .tk 21 [22] hH ?_;refine fA.last Fs rfl Fs (fun K hK=>?_);go_simp;refine hK.out _ _ ?_;clear hK
    try simp only[lay]
    go_wp2_with(fail);go_ret;exact⟨zp (by rw[HR.out]),hG0.trans ag⟩
   | true=>
    have HR:=fh (show pG a=f1 from by rw[aw.out,aj.out,ax.out];simp);refine .tk 11 [22] hH ?_;refine .tk 12 [22] hH ?_;refine .tk 13 [22] hH ?_;refine .tk 14 [22] hH ?_;refine .tk 15 [22] hH ?_;refine .tk 16 [22] hH ?_;refine .tk 17 [22] hH ?_;refine .tk 18 [22] hH ?_;refine .tk 19 [22] hH ?_;refine fA.one (i:=20) Fs rfl (fun K hK=>?_);go_simp;go_at_call 94;(with_reducible refine(zjO (i:=i1) (d:=d1) (Ty.up _ aU ag) (Ty.up _ aW ag) av).mono ?_);rw[ax.out];rintro e v2 ⟨rfl,a1⟩;have am:=ag.trans a1;have y0:=za a1 y0;have y1:=za a1 y1;have y2:=za a1 y2;have y3:=za a1 y3;have a2:=za a1 a2;have a3:=za a1 a3;have a6:=za a1 a6;have a7:=za a1 a7;have a8:=za a1 a8;have a9:=za a1 a9;have aa:=za a1 aa;have a4:=za a1 a4;have a5:=za a1 a5;have ab:=za a1 ab;have ac:=za a1 ac;have ad:=za a1 ad;have ae:=za a1 ae;have af:=za a1 af;refine hK.out _ _ (Rf y0 (Rf y1 (Rf y2 (Rf y3 (Rf a2 (Rf a3 (Rf a6 (Rf a7 (Rf a8 (Rf a9 (Rf aa (Rf a4 (Rf a5 (Rf ab (Rf ac (Rf ad (Rf ae af))))))))))))))))) (fun hI=>?_);clear hK hH;have hH:=hI
    try simp only[lay]
    refine .tk 21 [22] hH ?_;refine fA.last Fs rfl Fs (fun K hK=>?_);go_simp;refine hK.out _ _ ?_;clear hK
    try simp only[lay]
    go_wp2_with(fail);go_ret;exact⟨zp (by rw[HR.out]),hG0.trans am⟩
theorem IU (x:N):x.toList.isEmpty=decide (x=Wy):=by
 have h:=lC x Wy
 have he:Wy.toList = []:=by
  unfold ByteArray.toList;rw[ByteArray.toList.loop];rfl
 rw[he] at h;rw[<-h];cases x.toList <;> rfl
theorem OE (h:fP t.li 0 7=I):lx t=I:=by
 cases hq:lx t with
 | false=>rfl
 | true=>
  unfold lx at hq
  have:fP t.li 0 7=M:=by
   rw[zu];split at hq
   ·omega
   ·split at hq
    ·omega
    ·split at hq
     ·omega
     ·rw[Rq,zu] at hq
      omega
  rw[h] at this;cases this
theorem KG {a:Int} (h:a<0):mF xs a = -1:=by unfold mF;rw[Rs h]
theorem KF (xs:Q gB)(k:Nat):mF xs k=n9 (xs.drop k) 1 k:=by unfold mF;rw[Ro K9,Ry]
theorem Ok {x:gB} (h:xs[k]?=D x)(m:Nat):n9 (xs.drop k) (m+1) k=if lx x=M then n9 (xs.drop (k+1)) (m+(jo x).toNat) (k+1) else -1:=by
 obtain⟨h1,rfl⟩:=Rd.1 h;rw[Rw h1];rfl
theorem zkG (hs:t.pu.size<=9223372036854775807):RD prog 206 #[.agg #[J Z t.li,J Z t.gZ,V t.pu]] w fun e w'=>e=.returned (H (lx t))/\fu w w':=by
 rcases RX (fP t.li 0 7) with hb | hb
 rotate_left
 ·have HB:=fh hb
  have HF:Hid (lx t=I):=fh (OE hb);clear hb;go_enter func206,ntmps206;go_wp2_with(go_at_call 43;(with_reducible refine(gW _ _ _ _).mono ?_);rw[HB.out];rintro e w1 ⟨rfl,rfl⟩);go_ret;exact⟨zp HF.out.symm,gG⟩
 have HK:Hid (¬ t.li=0->¬ t.li=1->¬ t.li=7->fP t.li 2 6=M):=fh (fun h0 h1 h7=>by rw[zu] at hb |-;omega);go_enter func206,ntmps206;go_wp2_with(first | (go_at_call 43;(with_reducible refine(gW _ _ _ _).mono ?_);rintro e w1 ⟨rfl,rfl⟩) | (go_at_call 133;(with_reducible refine(rr _ _ hs).mono ?_);rintro e w1 ⟨rfl,rfl⟩))
 all_goals
  go_ret
  refine⟨zp ?_,gG⟩
  have a0:=HK.out
  clear HK
  unfold lx
  simp_all [IU]
theorem znE (hs:t.pu.size<=9223372036854775807):RD prog 207 #[.agg #[J Z t.li,J Z t.gZ,V t.pu]] w fun e w'=>e=.returned (J Z (jo t))/\fu w w':=by
 cases hq:lx t with
 | false=>
  have HQ:=fh hq;have HF:Hid (jo t = -1):=fh (by unfold jo;rw[hq];rfl);clear hq;go_enter func207,ntmps207;go_wp2_with(go_at_call 206;(with_reducible refine(zkG hs).mono ?_);rw[HQ.out];rintro e v1 ⟨rfl,hg⟩);go_ret;exact⟨nV HF.out.symm,fu.trans (b:=_) gF hg⟩
 | true=>
  have HQ:=fh hq;have HF:Hid (jo t=if t.li=7 then t.gZ else if t.li=0∨t.li=1 then 0 else 2):=fh (by unfold jo;rw[Rs hq]);clear hq;go_enter func207,ntmps207;have eb:=Re w (F #[J Z t.li,J Z t.gZ,V t.pu] 160);go_wp2_with(go_at_call 206;(with_reducible refine(zkG hs).mono ?_);rw[HQ.out];rintro e v1 ⟨rfl,hg⟩;have eb:=zj eb (fu.trans (b:=_) gF hg);obtain⟨b0,b1,b2,_⟩:=iS eb)
  all_goals
   go_ret
   refine⟨nV ?_,fu.trans (b:=_) gF (fu.trans hg gF)⟩
   rw[HF.out]
   simp_all
theorem zjm {a:Int} (hx:(jf.sl 160).R w w.heap.size [G A xs.length c] xs)(ha:fE a)(hl:xs.length<=1099511627776) :
  RD prog 200 #[G A xs.length c,J Z a] w fun e w'=>e=.returned (J Z (mF xs a))/\fu w w':=by
 by_cases ha0:a<0
 ·have HF:Hid (mF xs a = -1):=fh (KG ha0)
  go_enter func200,ntmps200;go_wp2_with(fail);exact Rj (v:=J Z (-1)) (by simp[Rv,results200,go_sem]) rfl ⟨by rw[HF.out],gG⟩
 ·have a7:0<=a:=K9
  obtain⟨k0,a4⟩:∃ k0:Nat,a=(k0:Int):=⟨a.toNat,K9⟩
  subst a4;have a2:Hid (n9 (xs.drop k0) 1 k0=mF xs k0):=fh (KF xs k0).symm;go_enter func200,ntmps200;go_wp2_with(fail);go_loopw [5,1] (fun z q wr=>∃(nd k:Nat),z=J Z nd/\q=J Z k/\Hid (fu w wr)/\nd+4*(xs.length-k)<=4*xs.length+1/\(k:Int)<=9223372036854775807/\Hid (n9 (xs.drop k) nd k=mF xs k0)) (fun _ q _=>xs.length-(RS q).toNat)
  case atStart=>exact⟨1,k0,rfl,rfl,fh gG,K9,ha.2,a2⟩
  case round=>
   obtain⟨nd,k,rfl,rfl,hG,ab,a6,hE⟩:=hrel;by_cases hp:0<nd
   ·have ac:(0:Int)<(nd:Int):=K9
    obtain⟨m,rfl⟩:∃ m,nd=m+1:=⟨nd-1,K9⟩
    by_cases hlt:k<xs.length
    ·obtain⟨g,ah,x,hA,a9,a1,x0,x1,x2,bk,bn,bs⟩:=ue hx hlt
     have aa:(k:Int)<(xs.length:Int):=K9;have a0:¬ ((xs.length:Int)<=(k:Int)):=K9;have a5:(0:Int)<=(k:Int):=K9;have x0:=za hG.out x0;have x1:=za hG.out x1;have x2:=za hG.out x2;have HA:=fh (Ok a1 m);clear a1;subst hA;cases ht:lx x with
     | false=>
      have HT:=fh ht;have HF:Hid (mF xs k0 = -1):=fh (by rw[<-hE.out,HA.out,ht];rfl);clear ht;go_wp2_with(first | (go_at_call 206;(with_reducible refine(zkG (t:=x) bs).mono ?_);rw[HT.out];rintro e v1 ⟨rfl,hg⟩));exact Rj (v:=J Z (-1)) (by simp[Rv,results200,go_sem]) rfl ⟨by rw[HF.out],hG.out.trans (fu.trans (b:=_) gF hg)⟩
     | true=>
      have HT:=fh ht;have a8:=Bd ht;have HB:Hid (n9 (xs.drop (k+1)) (m+(jo x).toNat) (k+1)=mF xs k0):=fh (by rw[<-hE.out,HA.out,Rs ht]);clear ht;have ad:Rg Z (jo x-1)=jo x-1:=iw;have ae:Rg Z (((m+1:Nat):Int)+(jo x-1))=((m+(jo x).toNat:Nat):Int):=by rw[show ((m+1:Nat):Int)+(jo x-1)=((m+(jo x).toNat:Nat):Int) from K9];exact iw
      have af:Rg Z (((m+1:Nat):Int)-1)=((m+1:Nat):Int)-1:=iw;have ag:Rg Z (((m+1:Nat):Int)-1+jo x)=((m+(jo x).toNat:Nat):Int):=by rw[show ((m+1:Nat):Int)-1+jo x=((m+(jo x).toNat:Nat):Int) from K9];exact iw
      go_wp2_with(first | (go_at_call 206;(with_reducible refine(zkG (t:=x) bs).mono ?_);rw[HT.out];rintro e v1 ⟨rfl,hg⟩;have x0:=za (fu.trans (b:=_) gF hg) x0;have x1:=za (fu.trans (b:=_) gF hg) x1;have x2:=za (fu.trans (b:=_) gF hg) x2) | (go_at_call 207;(with_reducible refine(znE (t:=x) bs).mono ?_);rintro e v2 ⟨rfl,a3⟩));go_roundw;exact⟨m+(jo x).toNat,k+1,Ar,Ar,fh (hG.out.trans ((fu.trans (b:=_) gF hg).trans ((fu.trans (b:=_) gF a3).trans gF))),K9,K9,HB⟩;exact gM
    ·have a0:((xs.length:Int)<=(k:Int)):=K9
     have HF:Hid (mF xs k0 = -1):=fh (by rw[<-hE.out,Tw K9];rfl);go_wp2_with(fail);exact Rj (v:=J Z (-1)) (by simp[Rv,results200,go_sem]) rfl ⟨by rw[HF.out],hG.out.trans gG⟩
   ·obtain rfl:nd=0:=K9
    have HF:Hid (mF xs k0=k):=fh (by rw[<-hE.out];cases xs.drop k <;> rfl);go_wp2_with(fail);exact Rj (v:=J Z (k:Int)) (by simp[Rv,results200,go_sem]) rfl ⟨by rw[HF.out],hG.out.trans gG⟩
theorem vF {g:Prop} (f:g:=by
  go_enter func189,ntmps189
  go_wp2_with(fail)
  exact Rj (v:=H I) (by simp[Rv,results189,go_sem]) rfl ⟨by rw[HF.out],gG⟩):g:=f
theorem zk5 (hx:(jf.sl 160).R w w.heap.size [G A xs.length c] xs)(hl:xs.length<=1099511627776) :
  RD prog 189 #[G A xs.length c] w fun e w'=>e=.returned (H (pL xs))/\fu w w':=by
 have a2:fE 0:=⟨K9,K9⟩
 have HD:Hid (pL xs=(decide (0<xs.length) && (decide (xs.length<=20) && decide (mF xs 0=xs.length)))):=fh rfl;by_cases h0:0<xs.length
 ·have a1:(0:Int)<(xs.length:Int):=K9
  by_cases h20:xs.length<=20
  ·have a0:(xs.length:Int)<=20:=K9
   obtain⟨q,hq⟩:∃ q,mF xs 0=q:=⟨_,rfl⟩
   have HF:Hid (pL xs=(q == (xs.length:Int))):=fh (by rw[HD.out,hq];simp only[h0,h20,decide_true,TP];by_cases hh:q=(xs.length:Int) <;> simp[hh]);have HQ:=fh hq;clear hq;go_enter func189,ntmps189;go_wp2_with(first | (go_at_call 200;(with_reducible refine(zjm (a:=0) (Ty.up _ hx gF) a2 hl).mono ?_);rw[HQ.out];rintro e v1 ⟨rfl,hg⟩));refine Rj (v:=H (q == (xs.length:Int))) (by simp[Rv,results189,go_sem]) rfl ⟨by rw[HF.out],fu.trans (b:=_) gF (hg.trans gF)⟩
  ·have a0:¬ ((xs.length:Int)<=20):=K9
   have HF:Hid (pL xs=I):=fh (by rw[HD.out];simp[h20]);exact vF
 ·have a1:¬ ((0:Int)<(xs.length:Int)):=K9
  have a0:(xs.length:Int)<=20:=K9;have HF:Hid (pL xs=I):=fh (by rw[HD.out];simp[h0]);exact vF
theorem lN:hU prog 26 3 zr 8:=by
 obtain⟨i0,hi,a0,a1,a2⟩:=Tn Cx;exact⟨underlying26,⟨i0,_,hi,a0,a1,a2,rfl⟩,qo⟩
def kM (xs:Q Int)(w:U)(r:Ending)(w':U):Prop:=∃ A c S,r=.returned (G A xs.length c)/\Has (zr.sl 3) w' [G A xs.length c] xs S/\(∀ b∈S,w.heap.size<=b)/\fu w w'
theorem kM.mk {xs ys:Q Int} {w':U} {n:Nat} {S:Q Nat} (h:Has (zr.sl 3) w' [G A n c] ys S)(he:ys=xs)(hn:n=ys.length)(hS:∀ b∈S,w.heap.size<=b)(hg:fu w w'):kM xs w (.returned (G A n c)) w':=by
 subst he hn;exact⟨A,c,S,rfl,h,hS,hg⟩
theorem sc {g:Prop} (f:g:=by
  have h:=Ta List.length hd1
  rw[Rh,ks.gj,Tt] at h
  omega):g:=f
theorem zq7 {a:Nat} {ks:gu} {rs:Q gB} (hx:(jf.sl 160).R w w.heap.size [G A xs.length c] xs)(hl:xs.length<=1099511627776)(hw:(Ex.node t ks).wf)(hd:xs.drop a=(Ex.node t ks).flat++rs) :
  RD prog 216 #[G A xs.length c,J Z a] w (kM (ks.gP (a+1)) w):=by
 obtain⟨aa,hd1⟩:=xp (show xs.drop a=t::(ks.flat++rs) from hd);have ap:a<xs.length:=(Rd.1 aa).1;obtain⟨g,aH,x,hA,aq,a6,x0,x1,x2,bk,bn,bs⟩:=ue hx ap;obtain rfl:x=t:=by rw[aa] at a6;injection a6 with a6;exact a6.symm
 clear aa a6
 have aF:ks.size<=xs.length:=by
  exact sc
 have aB:=ks.kr;obtain⟨en,ad⟩:∃ en:Int,en=((a+(Ex.node x ks).size:Nat):Int):=⟨_,rfl⟩
 have HE:Hid (mF xs (a:Int)=en):=fh (by rw[ad];exact Cp hw hd);have a9:fE (a:Int):=⟨K9,K9⟩
 have ax:¬ (en<0):=K9;have ag:Hid (jo x=(ks.len:Int)):=fh hw.2.1;have ak:=fh hw.2.2;have ay:(a:Int)<(xs.length:Int):=K9;have ao:(0:Int)<=(a:Int):=K9;have az:Rg Z ((a:Int)+1)=(a:Int)+1:=iw;have ah:=fh hd1;have a0:=fu.refl w;clear hd hd1 hw ad;subst hA;go_enter func216,ntmps216;go_wp2_with(first | (go_at_call 200;(with_reducible refine(zjm (xs:=xs) (a:=(a:Int)) (Ty.up _ hx gF) a9 hl).mono ?_);rw[HE.out];rintro e v1 ⟨rfl,hg⟩;have a0:=a0.trans (fu.trans (b:=_) gF hg);have aA:=Ri aq a0.size;have x0:=za a0 x0;have x1:=za a0 x1;have x2:=za a0 x2) | (go_at_call 207;(with_reducible refine(znE (t:=x) bs).mono ?_);rw[ag.out];rintro e v2 ⟨rfl,ae⟩));have ab:fu w v2:=a0.trans (fu.trans (b:=_) gF ae);have aG:=a0.size;go_loopw [5,6,7] (fun z q j wr=>∃(nx:Nat) (ys:Q Int) (qs:gu) (A7:X RJ) (c7:Nat) (S:Q Nat),z=G A7 ys.length c7/\q=J Z nx/\j=J Z qs.len/\nx<=xs.length/\ys.length+qs.len<=xs.length/\Hid (fu w wr)/\Hid (Has (zr.sl 3) wr [G A7 ys.length c7] ys S)/\Hid (∀ b∈S,w.heap.size<=b)/\Hid qs.wf/\Hid (xs.drop nx=qs.flat++rs)/\Hid (ys++qs.gP nx=ks.gP (a+1))) (fun _ _ j _=>(RS j).toNat)
 case atStart=>
  exact⟨a+1,[],ks,_,0,[w.heap.size],rfl,Ar,rfl,K9,by simp only[RR];omega,fh (ab.trans gF),fh (Has.Wy zr (zj (Re _ _) ((fu.trans (b:=_) gF hg).trans (fu.trans (b:=_) gF ae)))),fh (fun b hb=>by simp at hb;omega),ak,ah,fh rfl⟩
 case round=>
  obtain⟨nx,ys,qs,A7,c7,S,rfl,rfl,rfl,aE,a7,hG,hH,hS,a5,a3,hE⟩:=hrel
  match qs,a5,a3,hE,a7 with
  | .nil,a5,a3,hE,a7=>
   have HF:Hid (ys=ks.gP (a+1)):=fh (by have h:=hE.out;simpa[gu.gP] using h);have aw:¬ ((0:Int)<((gu.nil.len:Nat):Int)):=by simp[gu.len]
   go_wp2_with(fail);exact Rj (v:=G A7 ys.length c7) (by simp[Rv,results216,go_sem]) rfl (kM.mk hH.out HF.out rfl hS.out (hG.out.trans gG))
  | .cons ex q,a5,a3,hE,a7=>
   obtain⟨m,hm⟩:∃ m,q.len=m:=⟨_,rfl⟩
   have ac:(gu.cons ex q).len=m+1:=by simp only[gu.len,hm]
   have HM:=fh hm;rw[ac];have aC:(0:Int)<((m+1:Nat):Int):=K9;have aD:Rg Z (((m+1:Nat):Int)-1)=(m:Int):=by rw[show ((m+1:Nat):Int)-1=(m:Int) from K9];exact iw
   have a8:xs.drop nx=ex.flat++(q.flat++rs):=by rw[a3.out];simp only[gu.flat,RU]
   obtain⟨al,a1⟩:∃ en:Int,en=((nx+ex.size:Nat):Int):=⟨_,rfl⟩
   have HN:Hid (mF xs (nx:Int)=al):=fh (by rw[a1];exact Cp a5.out.1 a8);have a2:fE (nx:Int):=⟨K9,K9⟩
   have af:=a2
   have ar:nx+ex.size<=xs.length:=by
    have h:=Ta List.length a8;rw[Rh,ex.gj,Tt] at h;omega
   have ai:Hid (xs.drop (nx+ex.size)=q.flat++rs):=fh (by rw[<-Uf,a8,<-ex.gj,UH]);have aj:=fh a1;have av:ys.length+(m+1)<=xs.length:=by rw[<-ac];exact a7
   clear a8 a1 hm ac a7 a3;go_wp2_with(first | (refine zD (L:=ys.length+1) (y:=(nx:Int)) rfl (.tmp 25) (.tmp 27) lN zE (S:=S) (hH.out.fy gF) (ec:=[J Z nx]) (W1:=w) (B:=w.heap.size) ⟨rfl,af.1,af.2⟩ rfl rfl rfl (by intro j u hu;simpa[go_sem] using hu) rfl K9 K9 ?_;intro A8 c8 W8 S8 au am an;have a4:fu w W8:=au.fy (hG.out.trans gF) hS.out) | (go_at_call 200;(with_reducible refine(zjm (xs:=xs) (a:=(nx:Int)) (Ty.up _ hx (a4.trans gF)) a2 hl).mono ?_);rw[HN.out];rintro e v1 ⟨rfl,hg⟩));go_roundw
   case measure=>exact gM
   case rel=>
    refine⟨nx+ex.size,ys++[(nx:Int)],q,A8,c8,S8,II,by rw[aj.out],by rw[HM.out],ar,by rw[HM.out];simp only[Rh,RA,RR];omega,fh (a4.trans (fu.trans (b:=_) gF (hg.trans gF))),fh (by rw[Rh];exact am.fy (fu.trans (b:=_) gF (hg.trans gF))),fh (fun b hb=>?_),fh a5.out.2,ai,fh (by rw[<-hE.out];simp[gu.gP])⟩;rcases an b hb with h | h
    ·exact hS.out b h
    ·have:=hG.out.size;simp at h;omega
theorem Pb (n:Int):bits .and Z n 4294967295=n % 4294967296:=by
 have h0:(TE 64 4294967295).toNat=2 ^ 32-1:=qo
 have a0:(TE 64 n &&& TE 64 4294967295).toNat=(n % ((2 ^ 64:Nat):Int)).toNat % 2 ^ 32:=by
  rw[BitVec.toNat_and,BitVec.toNat_ofInt,h0,Ue]
 show Rg Z ((TE 64 n &&& TE 64 4294967295).toNat:Nat)=n % 4294967296;rw[a0,IntKind.wrap_i64];omega
theorem yH (n:Int) : -2147483648<=jO n/\jO n<=2147483647:=by unfold jO;omega
theorem xy (n:Int):fE (jO n):=by have:=yH n;exact⟨K9,K9⟩
theorem zc4 {x:Int} (hx:fE x):RD prog 197 #[J Z x] w fun r w'=>r=.returned (J Z (jO x))/\w'=w:=by
 have h1:SN (wrap32 (x % 4294967296))=jO x:=by unfold SN wrap32 jO;omega
 have Q6:=fh h1;clear h1;go_enter func197,ntmps197;go_wp2_with(fail);rw[Q6.out];go_ret;exact⟨rfl,rfl⟩
theorem vX {g:Prop} (f:g:=by
  have Q6:=fh h1
  clear h1
  go_enter func181,ntmps181
  go_wp2_with(fail)
  rw[Q6.out]
  go_ret
  exact⟨rfl,rfl⟩):g:=f
theorem zc5 {x:Int} (hx:fE x):RD prog 181 #[J Z x] w fun r w'=>r=.returned (J Z (jO x))/\w'=w:=by
 have h0:=Pb x;by_cases q:(2147483647:Int)<x % 4294967296
 ·have h1:jO x=x % 4294967296-4294967296:=by unfold jO;omega
  have h2:SN (x % 4294967296-4294967296)=x % 4294967296-4294967296:=by unfold SN;omega
  exact vX
 ·have h1:jO x=x % 4294967296:=by unfold jO;omega
  exact vX
theorem pU {g:Prop} (f:g:=by
  go_enter func177,ntmps177
  go_wp2_with(go_at_call 197;first
   | (with_reducible refine(zc4 (x:=a) ha).mono ?_;rw[HA.out];rintro e w1 ⟨rfl,rfl⟩)
   | (with_reducible refine(zc4 (x:=b) hb).mono ?_;rw[HB.out];rintro e w1 ⟨rfl,rfl⟩))
  rw[HQ.out]
  go_ret
  exact⟨rfl,rfl⟩):g:=f
theorem Xs {g:Prop} (f:g:=by
  have h1:(A*B).natAbs<=2147483648*2147483648:=by rw[Int.natAbs_mul];exact U0 K9 K9
  omega):g:=f
theorem zgS {k a:Int} (hk:2<=k/\k<=6)(ha:fE a)(hb:fE b):RD prog 177 #[J Z k,J Z a,J Z b] w fun r w'=>r=.returned (J Z (zO (k+3) a b))/\w'=w:=by
 obtain⟨A,hA⟩:∃ A,jO a=A:=⟨_,rfl⟩
 obtain⟨B,hB⟩:∃ B,jO b=B:=⟨_,rfl⟩
 have bA:=yH a;have bB:=yH b;rw[hA] at bA;rw[hB] at bB;have HA:=fh hA;have HB:=fh hB;have a0:k=2∨k=3∨k=4∨k=5∨k=6:=K9;have a2:SN (A+B)=A+B:=by unfold SN;omega
 have a3:SN (A-B)=A-B:=by unfold SN;omega
 have a1 : -4611686018427387904<=A*B/\A*B<=4611686018427387904:=by
  exact Xs
 have a4:SN (A*B)=A*B:=by unfold SN;omega
 have j1:fE (A+B):=⟨K9,K9⟩
 have j2:fE (A-B):=⟨K9,K9⟩
 have j3:fE (A*B):=⟨K9,K9⟩
 clear hA hB;rcases a0 with rfl | rfl | rfl | rfl | rfl
 ·have HQ:=fh (show zO (2+3) a b=jO (A+B) from by unfold zO;rw[HA.out,HB.out];rfl)
  go_enter func177,ntmps177
  go_wp2_with(go_at_call 197;first
   | (with_reducible refine(zc4 (x:=a) ha).mono ?_;rw[HA.out];rintro e w1 ⟨rfl,rfl⟩)
   | (with_reducible refine(zc4 (x:=b) hb).mono ?_;rw[HB.out];rintro e w1 ⟨rfl,rfl⟩)
   | (with_reducible refine(zc4 (x:=A+B) j1).mono ?_;rintro e w1 ⟨rfl,rfl⟩))
  rw[HQ.out];go_ret;exact⟨rfl,rfl⟩
 ·have HQ:=fh (show zO (3+3) a b=jO (A-B) from by unfold zO;rw[HA.out,HB.out];rfl)
  go_enter func177,ntmps177
  go_wp2_with(go_at_call 197;first
   | (with_reducible refine(zc4 (x:=a) ha).mono ?_;rw[HA.out];rintro e w1 ⟨rfl,rfl⟩)
   | (with_reducible refine(zc4 (x:=b) hb).mono ?_;rw[HB.out];rintro e w1 ⟨rfl,rfl⟩)
   | (with_reducible refine(zc4 (x:=A-B) j2).mono ?_;rintro e w1 ⟨rfl,rfl⟩))
  rw[HQ.out];go_ret;exact⟨rfl,rfl⟩
 ·have HQ:=fh (show zO (4+3) a b=jO (A*B) from by unfold zO;rw[HA.out,HB.out];rfl)
  go_enter func177,ntmps177
  go_wp2_with(go_at_call 197;first
   | (with_reducible refine(zc4 (x:=a) ha).mono ?_;rw[HA.out];rintro e w1 ⟨rfl,rfl⟩)
   | (with_reducible refine(zc4 (x:=b) hb).mono ?_;rw[HB.out];rintro e w1 ⟨rfl,rfl⟩)
   | (with_reducible refine(zc4 (x:=A*B) j3).mono ?_;rintro e w1 ⟨rfl,rfl⟩))
  rw[HQ.out];go_ret;exact⟨rfl,rfl⟩
 ·by_cases q:A<B
  ·have HQ:=fh (show zO (5+3) a b=1 from by unfold zO;rw[HA.out,HB.out];exact Rs q)
   exact pU
  ·have HQ:=fh (show zO (5+3) a b=0 from by unfold zO;rw[HA.out,HB.out];exact Ro q)
   exact pU
 ·by_cases q:A=B
  ·have HQ:=fh (show zO (6+3) a b=1 from by unfold zO;rw[HA.out,HB.out];exact Rs q)
   exact pU
  ·have HQ:=fh (show zO (6+3) a b=0 from by unfold zO;rw[HA.out,HB.out];exact Ro q)
   exact pU
theorem pV {g:Prop} (f:g:=by
  go_enter func142,ntmps142
  go_wp2_with(go_at_call 181;first
   | (with_reducible refine(zc5 (x:=a) ha).mono ?_;rw[HA.out];rintro e w1 ⟨rfl,rfl⟩)
   | (with_reducible refine(zc5 (x:=b) hb).mono ?_;rw[HB.out];rintro e w1 ⟨rfl,rfl⟩))
  rw[HQ.out]
  go_ret
  exact⟨rfl,rfl⟩):g:=f
theorem zfQ {k a:Int} (hk:2<=k/\k<=6)(ha:fE a)(hb:fE b):RD prog 142 #[J Z k,J Z a,J Z b] w fun r w'=>r=.returned (J Z (zO (k+3) a b))/\w'=w:=by
 obtain⟨A,hA⟩:∃ A,jO a=A:=⟨_,rfl⟩
 obtain⟨B,hB⟩:∃ B,jO b=B:=⟨_,rfl⟩
 have bA:=yH a;have bB:=yH b;rw[hA] at bA;rw[hB] at bB;have HA:=fh hA;have HB:=fh hB;have a0:k=2∨k=3∨k=4∨k=5∨k=6:=K9;have a2:SN (A+B)=A+B:=by unfold SN;omega
 have a3:SN (A-B)=A-B:=by unfold SN;omega
 have a1 : -4611686018427387904<=A*B/\A*B<=4611686018427387904:=by
  exact Xs
 have a4:SN (A*B)=A*B:=by unfold SN;omega
 have j1:fE (A+B):=⟨K9,K9⟩
 have j2:fE (A-B):=⟨K9,K9⟩
 have j3:fE (A*B):=⟨K9,K9⟩
 clear hA hB;rcases a0 with rfl | rfl | rfl | rfl | rfl
 ·have HQ:=fh (show zO (2+3) a b=jO (A+B) from by unfold zO;rw[HA.out,HB.out];rfl)
  go_enter func142,ntmps142
  go_wp2_with(go_at_call 181;first
   | (with_reducible refine(zc5 (x:=a) ha).mono ?_;rw[HA.out];rintro e w1 ⟨rfl,rfl⟩)
   | (with_reducible refine(zc5 (x:=b) hb).mono ?_;rw[HB.out];rintro e w1 ⟨rfl,rfl⟩)
   | (with_reducible refine(zc5 (x:=A+B) j1).mono ?_;rintro e w1 ⟨rfl,rfl⟩))
  rw[HQ.out];go_ret;exact⟨rfl,rfl⟩
 ·have HQ:=fh (show zO (3+3) a b=jO (A-B) from by unfold zO;rw[HA.out,HB.out];rfl)
  go_enter func142,ntmps142
  go_wp2_with(go_at_call 181;first
   | (with_reducible refine(zc5 (x:=a) ha).mono ?_;rw[HA.out];rintro e w1 ⟨rfl,rfl⟩)
   | (with_reducible refine(zc5 (x:=b) hb).mono ?_;rw[HB.out];rintro e w1 ⟨rfl,rfl⟩)
   | (with_reducible refine(zc5 (x:=A-B) j2).mono ?_;rintro e w1 ⟨rfl,rfl⟩))
  rw[HQ.out];go_ret;exact⟨rfl,rfl⟩
 ·have HQ:=fh (show zO (4+3) a b=jO (A*B) from by unfold zO;rw[HA.out,HB.out];rfl)
  go_enter func142,ntmps142
  go_wp2_with(go_at_call 181;first
   | (with_reducible refine(zc5 (x:=a) ha).mono ?_;rw[HA.out];rintro e w1 ⟨rfl,rfl⟩)
   | (with_reducible refine(zc5 (x:=b) hb).mono ?_;rw[HB.out];rintro e w1 ⟨rfl,rfl⟩)
   | (with_reducible refine(zc5 (x:=A*B) j3).mono ?_;rintro e w1 ⟨rfl,rfl⟩))
  rw[HQ.out];go_ret;exact⟨rfl,rfl⟩
 ·by_cases q:A<B
  ·have HQ:=fh (show zO (5+3) a b=1 from by unfold zO;rw[HA.out,HB.out];exact Rs q)
   exact pV
  ·have HQ:=fh (show zO (5+3) a b=0 from by unfold zO;rw[HA.out,HB.out];exact Ro q)
   exact pV
 ·by_cases q:A=B
  ·have HQ:=fh (show zO (6+3) a b=1 from by unfold zO;rw[HA.out,HB.out];exact Rs q)
   exact pV
  ·have HQ:=fh (show zO (6+3) a b=0 from by unfold zO;rw[HA.out,HB.out];exact Ro q)
   exact pV
def xC (last:Int)(r:gK):Bool:=decide (last<=r.kw) && decide (r.kw<r.PP) && decide (r.PP<=1000000) && fP r.fF 0 1200 && !(r.Frame && decide (r.fF≠0))
theorem AB:xC last r=M↔last<=r.kw/\r.kw<r.PP/\r.PP<=1000000/\fP r.fF 0 1200=M/\(r.Frame=M->r.fF=0):=by
 unfold xC;simp only[Rq,RC,Uq,Up,SJ,Classical.not_not];constructor
 ·rintro⟨⟨⟨⟨h1,h2⟩,h3⟩,h4⟩,h5⟩
  refine⟨h1,h2,h3,h4,fun hf=>?_⟩;rcases h5 with h5 | h5
  ·rw[hf] at h5;cases h5
  ·exact h5
 ·rintro⟨h1,h2,h3,h4,h5⟩
  refine⟨⟨⟨⟨h1,h2⟩,h3⟩,h4⟩,?_⟩;cases hf:r.Frame with
  | false=>exact .inl rfl
  | true=>exact .inr (h5 hf)
theorem yA (h:¬ (last<=r.kw/\r.kw<r.PP/\r.PP<=1000000/\fP r.fF 0 1200=M/\(r.Frame=M->r.fF=0))):xC last r=I:=by
 cases hq:xC last r with
 | false=>rfl
 | true=>exact absurd (AB.1 hq) h
def qP:Int->Q gK->Bool
 | _,[]=>M
 | last,r::rs=>xC last r && qP r.PP rs
theorem BR {rs:Q gK} (h:rs[k]?=D r)(last:Int):qP last (rs.drop k)=(xC last r && qP r.PP (rs.drop (k+1))):=by
 obtain⟨h1,rfl⟩:=Rd.1 h;rw[Rw h1];rfl
def pO (rs:Q gK)(k:Nat):Int:=match k with
 | 0=>0
 | j+1=>(rs[j]?.map gK.PP).getD 0
def ui (prev:Int)(r:iu):Bool:=fP r.us 0 1000000 && fP r.fG 0 59 && decide (prev<r.us)
def qS:Int->Q iu->Bool
 | _,[]=>M
 | p,r::rs=>ui p r && qS r.us rs
def rowAt:Q iu->Int->Nat->Int->Int
 | [],_,_,f=>f
 | r::rs,off,k,f=>rowAt rs off (k+1) (if r.us<=off then (k:Int) else f)
theorem yv {rs:Q iu} {r:iu} (h:rs[k]?=D r)(p:Int):qS p (rs.drop k)=(ui p r && qS r.us (rs.drop (k+1))):=by
 obtain⟨h1,rfl⟩:=Rd.1 h;rw[Rw h1];rfl
def jU (x:fQ):Bool:=decide (0<=x.kw) && decide (x.kw<x.PP) && decide (x.PP<=1000000) && fP x.Do 0 2 && fP x.fG 0 59 && kZ x.pu
def rH (q x:fQ):Bool:=decide (x.Do<q.Do) || (q.Do == x.Do && decide (x.kw<q.PP))
def rL (x y:fQ):Bool:=y.Do == x.Do-1 && (decide (y.kw<=x.kw) && decide (x.PP<=y.PP))
def sH (x:fQ):Bool->Q fQ->Bool
 | b,[]=>b
 | b,y::ys=>sH x (b || rL x y) ys
def Bh (all:Q fQ)(k:Nat)(x:fQ):Bool:=match k with
 | 0=>I
 | j+1=>rH (all[j]?.getD x) x
def ly (all:Q fQ)(k:Nat)(x:fQ):Bool:=jU x && !Bh all k x && sH x (x.Do == 0) (all.take k)
def wK (all:Q fQ):Nat->Q fQ->Bool
 | _,[]=>M
 | k,x::r=>ly all k x && wK all (k+1) r
def wC (xs:Q fQ):Bool:=wK xs 0 xs
theorem wg (h:rs[k]?=D x):wK all k (rs.drop k)=(ly all k x && wK all (k+1) (rs.drop (k+1))):=by
 obtain⟨h1,rfl⟩:=Rd.1 h;rw[Rw h1];rfl
theorem qF (h:jU x=I):ly all k x=I:=by
 unfold ly;rw[h];rfl
theorem Hn (h:all[j]?=D q)(hb:rH q x=M):ly all (j+1) x=I:=by
 unfold ly Bh;simp only[h,Te,hb];simp
theorem NZ (h:jU x=M):ly all 0 x=sH x (x.Do == 0) (all.take 0):=by
 unfold ly Bh;rw[h];rfl
theorem NY (h:jU x=M)(hq:all[j]?=D q)(hb:rH q x=I):ly all (j+1) x=sH x (x.Do == 0) (all.take (j+1)):=by
 unfold ly Bh;simp only[hq,Te,hb,h];rfl
theorem Hm (h:jU x=M):0<=x.Do/\x.Do<=2:=by
 unfold jU at h;simp only[Rq] at h;exact zu.1 h.1.1.2
theorem yi {y:fQ} (h:rs[i]?=D y)(hik:i<k)(b:Bool):sH x b ((rs.take k).drop i)=sH x (b || rL x y) ((rs.take k).drop (i+1)):=by
 obtain⟨h1,rfl⟩:=Rd.1 h;have h2:i<(rs.take k).length:=by rw[SX];omega
 rw[Rw h2];show sH x (b || rL x (rs.take k)[i]) _=_;rw[List.getElem_take]
theorem FY (h:k<=i)(b:Bool):sH x b ((rs.take k).drop i)=b:=by
 rw[Tw (by rw[SX];omega)];rfl
end Go.Proofs.YthgbglbaemelhaaGreat
