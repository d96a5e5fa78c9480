/-
  PART.
-/
import Derived.Test.YthgbglbaemelhaaGreatM38LawSlices
set_option linter.unusedVariables false
set_option linter.unusedSimpArgs false
set_option maxRecDepth 100000
set_option maxHeartbeats 8000000
namespace Go.Proofs.YthgbglbaemelhaaGreat
open Value renaming slice->G,int->J,bool->H
open IntKind renaming i64->C
open Option renaming none->D,some->Z
open Obj renaming cells->F
open Bool renaming false->I,true->M
open Go renaming World->U,results->Rd,Calls->Rh,Addr->Ri,madeCells->R4,yielded->Su
open World renaming cell?->QL,alloc->RR
open List renaming replicate->Ro,length_nil->Ru
open RowKit renaming intOf->Ry
open _root_.Nat renaming add_zero->RK
open Region renaming wanted->Rx,ready->RL,noSelect->Tn,Mode->Ts,free->Ui
open Tryz
open Go.RowKit
variable {A0 A1 A2:X Ri}{c0 c1 c2:Nat}{s:gv}{th:Int}{w:U}
def Bf:fy:=⟨0,0,0,[],[],0,0⟩
def oy (s:gv):fy × Bool:=if zU s=M then (⟨s.Entries.headD 0,1199,1200,Ro 1200 0,[],0,0⟩,M) else (Bf,I)
def Nx (p:fy × Bool)(w:U)(e:Ending)(w':U):Prop:=∃ A0 c0 A1 c1,e=.returned (.tuple #[.agg #[J C p.1.Pc,J C p.1.Sp,J C p.1.Fp,G A0 p.1.Stack.length c0,G A1 p.1.Out.length c1,J C p.1.State,J C p.1.Value],H p.2])/\fU jX w w' [J C p.1.Pc,J C p.1.Sp,J C p.1.Fp,G A0 p.1.Stack.length c0,G A1 p.1.Out.length c1,J C p.1.State,J C p.1.Value] p.1/\ft w w'
theorem FG (w:U):∀ n,Rows zr w (Ro n (J C 0)) (Ro n 0) []
 | 0=>by simp[Rows]
 | n+1=>by
  rw[List.replicate_succ,List.replicate_succ];exact⟨[J C 0],Ro n (J C 0),[],[],rfl,rfl,⟨rfl,by decide,by decide,rfl⟩,FG w n⟩
theorem LZ (n:Nat):(R4 #[J C 0] n).toList=Ro n (J C 0):=by
 apply List.ext_getElem
 ·simp[R4]
 ·intro i h1 h2
  simp[R4,Nat.mod_one]
theorem Ku {QJ:U} {g:Nat} (hg:QJ.heap[g]?=Z (F (R4 #[J C 0] 1200) 3 (0,0)))(hl:w.heap.size<=g):fU (zr.sl 3) w QJ [G (Z ⟨g,0,D⟩) (Ro 1200 (0:Int)).length 1200] (Ro 1200 0):=by
 have h:=pS (T:=zr) (xs:=Ro 1200 (0:Int)) (S:=[]) hg (by rw[LZ];exact FG QJ 1200) (by rw[RJ];decide);have e:(Ro 1200 (0:Int)).length=1200:=RJ;rw[e] at h |-;exact⟨[g],h,by simp,by simpa using hl⟩
theorem KO (w W:U)(h:w.heap.size<=W.heap.size):fU jX w W [J C 0,J C 0,J C 0,G D 0 0,G D 0 0,J C 0,J C 0] Bf:=
 Bs (x:=Bf) ⟨by decide,by decide⟩ ⟨by decide,by decide⟩ ⟨by decide,by decide⟩ (zh W W).nH (zh W W).nH ⟨by decide,by decide⟩ ⟨by decide,by decide⟩ h h (.inl (Q8 _))
theorem zwH (h0:(iL.sl 103).R w w.heap.size [G A0 s.fq.length c0] s.fq)(h1:(zr.sl 3).R w w.heap.size [G A1 s.fu.length c1] s.fu)
  (h2:(zr.sl 3).R w w.heap.size [G A2 s.Entries.length c2] s.Entries) (hs:jP s<=1099511627776) :
  Rh prog 76 #[.agg #[G A0 s.fq.length c0,G A1 s.fu.length c1,G A2 s.Entries.length c2]] w (Nx (oy s) w):=by
 obtain⟨b,hb⟩:∃ b,zU s=b:=⟨_,rfl⟩
 have HB:=fh hb;cases b with
 | false=>
  have HQ:=fh (show oy s=(Bf,I) from by unfold oy;rw[hb];rfl);clear hb;go_enter func76,ntmps76;go_wp2_with(go_at_call 41;(with_reducible refine(zbU (s:=s) (Ty.up _ h0 gG) (Ty.up _ h1 gG) (Ty.up _ h2 gG) hs).mono ?_);rw[HB.out];rintro e w1 ⟨rfl,a2,d1,rfl⟩);rw[HQ.out];exact QU (v:=.tuple #[.agg #[J C 0,J C 0,J C 0,G D 0 0,G D 0 0,J C 0,J C 0],H I]) (by simp[Rd,results76,go_sem]) rfl ⟨D,0,D,0,rfl,KO _ _ (by simp <;> omega),gG⟩
 | true=>
  have a1:0<s.Entries.length:=by
   have h:=hb;unfold zU at h;simp only[Q4,Rg] at h;have:=zu.1 h.1.1.1.1.2;omega
  obtain⟨i0,hi,ag,ah,ai⟩:=SJ BC;have aa:=DE (P:=prog) 26 3 i0 _ underlying26 hi ag C C 1200 1200 (Q8 _) (by rw[ai];omega) (by omega);rw[ah,Tq] at aa;have ao:∀ w:U,(Instr.makeSlice 26 (J C 1200) (J C 1200)).run prog w=.ok (G (Z ⟨w.heap.size,0,D⟩) 1200 1200) (w.alloc (F (R4 #[J C 0] 1200) 3)):=fun w=>aa w;clear ag ah ai hi aa;have aq:s.Entries.length<=1099511627776:=by unfold jP at hs;omega
  have ad:=h2;obtain⟨g,a0,x,rfl,ac,a8,aj,ak⟩:=lI h2 a1;simp only[RK] at a8;have af:=RE _ _ a8;simp only at af
  have HQ:=fh (show oy s=(⟨x,1199,1200,Ro 1200 0,[],0,0⟩,M) from by
   unfold oy;rw[Q5 hb]
   have:s.Entries.headD 0=x:=by
    cases he:s.Entries with
    | nil=>rw[he] at a1;exact absurd a1 (by simp)
    | cons a r=>rw[he] at ac;simpa using ac
   rw[this])
  clear hb ac;go_enter func76,ntmps76;go_wp2_with(go_at_call 41;(with_reducible refine(zbU (s:=s) (Ty.up _ h0 gG) (Ty.up _ h1 gG) (Ty.up _ ad gG) hs).mono ?_);rw[HB.out];rintro e w1 ⟨rfl,a2,d1,rfl⟩);have a7:ft w (fx ((w.alloc (F #[G A0 s.fq.length c0,G A1 s.fu.length c1,G (Z ⟨g,a0,D⟩) s.Entries.length c2] 28)).alloc (F #[J C 0,J C 0,J C 0,G D 0 0,G D 0 0,J C 0,J C 0] 41)) a2 d1):=gG;have eb:(fx ((w.alloc (F #[G A0 s.fq.length c0,G A1 s.fu.length c1,G (Z ⟨g,a0,D⟩) s.Entries.length c2] 28)).alloc (F #[J C 0,J C 0,J C 0,G D 0 0,G D 0 0,J C 0,J C 0] 41)) a2 d1).heap[w.heap.size]?=Z (F #[G A0 s.fq.length c0,G A1 s.fu.length c1,G (Z ⟨g,a0,D⟩) s.Entries.length c2] 28 (0,0)):=zj (QO w _) gF;have er:(fx ((w.alloc (F #[G A0 s.fq.length c0,G A1 s.fu.length c1,G (Z ⟨g,a0,D⟩) s.Entries.length c2] 28)).alloc (F #[J C 0,J C 0,J C 0,G D 0 0,G D 0 0,J C 0,J C 0] 41)) a2 d1).heap[w.heap.size+1]?=Z (F #[J C 0,J C 0,J C 0,G D 0 0,G D 0 0,J C 0,J C 0] 41 (0,0)):=zj (show ((w.alloc (F #[G A0 s.fq.length c0,G A1 s.fu.length c1,G (Z ⟨g,a0,D⟩) s.Entries.length c2] 28)).alloc (F #[J C 0,J C 0,J C 0,G D 0 0,G D 0 0,J C 0,J C 0] 41)).heap[w.heap.size+1]?=_ from by have h:=QO (w.alloc (F #[G A0 s.fq.length c0,G A1 s.fu.length c1,G (Z ⟨g,a0,D⟩) s.Entries.length c2] 28)) (F #[J C 0,J C 0,J C 0,G D 0 0,G D 0 0,J C 0,J C 0] 41);rw[Rf] at h;exact h) gF;obtain⟨gb,hg⟩:∃ gb,w.heap.size=gb:=⟨_,rfl⟩
  have a9:(fx ((w.alloc (F #[G A0 s.fq.length c0,G A1 s.fu.length c1,G (Z ⟨g,a0,D⟩) s.Entries.length c2] 28)).alloc (F #[J C 0,J C 0,J C 0,G D 0 0,G D 0 0,J C 0,J C 0] 41)) a2 d1).cell? ⟨g,a0,D⟩=Z (J C x):=by obtain⟨os,d,e⟩:=a7;rw[e];exact zd a8 os d
  rw[hg] at eb er af |-;generalize (fx ((w.alloc _).alloc _) a2 d1)=Y at a7 eb er a9 |-;obtain⟨y0,y1,y2,_,yl⟩:=jc eb;obtain⟨z0,z1,z2,z3,z4,z5,z6,zf,zl⟩:=zS er;have au:gb≠gb+1:=by omega
  have an:g≠gb+1:=by omega
  have ar:g<Y.heap.size:=by omega
  clear a8 h0 h1 h2 ad;go_region_held3 (fun w'=>QL w' ⟨gb,2,D⟩=Z (G (Z ⟨g,a0,D⟩) s.Entries.length c2)/\QL w' ⟨g,a0,D⟩=Z (J C x)) ((repeat' apply QQ) <;> ((repeat (first | with_reducible assumption | with_reducible refine zd ?_ _ _ | with_reducible refine zk ?_ _ | with_reducible refine zc ?_ | with_reducible refine xX ?_ ?_));done)) (first | (fail));go_wp2_with(fail);rw[HQ.out];have h2:=mK er (J C x) (J C 1199) (J C 1200) (G (Z ⟨Y.heap.size,0,D⟩) 1200 1200) (G D 0 0) (J C 0) (J C 0);have ae:(((((((Y.setCell ⟨gb+1,0,D⟩ (J C x)).setCell ⟨gb+1,1,D⟩ (J C 1199)).setCell ⟨gb+1,2,D⟩ (J C 1200)).setCell ⟨gb+1,3,D⟩ (G (Z ⟨Y.heap.size,0,D⟩) 1200 1200)).setCell ⟨gb+1,4,D⟩ (G D 0 0)).setCell ⟨gb+1,5,D⟩ (J C 0)).setCell ⟨gb+1,6,D⟩ (J C 0)).heap.size=Y.heap.size:=by simp
  generalize (((((((Y.setCell _ _).setCell _ _).setCell _ _).setCell _ _).setCell _ _).setCell _ _).setCell _ _)=QJ at h2 ae |-;obtain⟨r0,r1,r2,r3,r4,r5,r6,_,_⟩:=zS h2.1;have a3:=QO QJ (F (R4 #[J C 0] 1200) 3);rw[ae] at a3;have a4:((QJ.alloc (F (R4 #[J C 0] 1200) 3)).drew).heap[Y.heap.size]?=Z (F (R4 #[J C 0] 1200) 3 (0,0)):=a3;have hf:=Ku (w:=Y) a4 (Q8 _);have ab:fD x:=⟨aj,ak⟩
  have n0:fD 0:=⟨by decide,by decide⟩
  have a5:fD 1199:=⟨by decide,by decide⟩
  have a6:fD 1200:=⟨by decide,by decide⟩
  have al:(Ro 1200 (0:Int)).length=1200:=RJ;have am:=h2.2.fx a7 (fun b hb=>by simp at hb;omega);have ap:=a7.size
  have hF:fU jX w ((QJ.alloc (F (R4 #[J C 0] 1200) 3)).drew) [J C x,J C 1199,J C 1200,G (Z ⟨Y.heap.size,0,D⟩) (Ro 1200 (0:Int)).length 1200,G D 0 0,J C 0,J C 0] ⟨x,1199,1200,Ro 1200 0,[],0,0⟩:=
   Bs (x:=⟨x,1199,1200,Ro 1200 0,[],0,0⟩) ab a5 a6 hf.nH (zh ((QJ.alloc (F (R4 #[J C 0] 1200) 3)).drew) _).nH n0 n0 ap (by simp <;> omega) (.inl (Q8 _))
  rw[al] at hF;have q0:=zc (zk r0 (F (R4 #[J C 0] 1200) 3));have q1:=zc (zk r1 (F (R4 #[J C 0] 1200) 3));have q2:=zc (zk r2 (F (R4 #[J C 0] 1200) 3));have q3:=zc (zk r3 (F (R4 #[J C 0] 1200) 3));have q4:=zc (zk r4 (F (R4 #[J C 0] 1200) 3));have q5:=zc (zk r5 (F (R4 #[J C 0] 1200) 3));have q6:=zc (zk r6 (F (R4 #[J C 0] 1200) 3));refine QU (v:=.tuple #[.agg #[J C x,J C 1199,J C 1200,G (Z ⟨Y.heap.size,0,D⟩) 1200 1200,G D 0 0,J C 0,J C 0],H M]) (by simp[Rd,results76,go_sem,q0,q1,q2,q3,q4,q5,q6]) rfl ⟨Z ⟨Y.heap.size,0,D⟩,1200,D,0,?_,?_,am.trans gF⟩
  ·simp only[RJ,Ru]
  ·simp only[RJ,Ru];exact hF
def wY:fK:=⟨⟨[],[],[]⟩,[],0,0,0⟩
def pD (s:gv)(n:Nat)(sl:Int):fK:=⟨s,Ro n (oy s).1,0,sl,sl⟩
def zx (s:gv)(th sl:Int):fK × Bool:=if fT th 1 3=M/\jd (pD s th.toNat sl)=M then (pD s th.toNat sl,M) else (wY,I)
def Ny (p:fK × Bool)(w:U)(e:Ending)(w':U):Prop:=∃ A0 c0 A1 c1 A2 c2 A3 c3,e=.returned (.tuple #[.agg #[G A0 p.1.fo.fq.length c0,G A1 p.1.fo.fu.length c1,G A2 p.1.fo.Entries.length c2,G A3 p.1.fk.length c3,J C p.1.fO,J C p.1.Left,J C p.1.Slice],H p.2])/\fU mS w w' [G A0 p.1.fo.fq.length c0,G A1 p.1.fo.fu.length c1,G A2 p.1.fo.Entries.length c2,G A3 p.1.fk.length c3,J C p.1.fO,J C p.1.Left,J C p.1.Slice] p.1/\ft w w'
theorem xF {B:Nat} {x:gv} (h:kV.R w B [G A0 x.fq.length c0,G A1 x.fu.length c1,G A2 x.Entries.length c2] x):(iL.sl 103).R w B [G A0 x.fq.length c0] x.fq/\(zr.sl 3).R w B [G A1 x.fu.length c1] x.fu/\(zr.sl 3).R w B [G A2 x.Entries.length c2] x.Entries:=by
 obtain⟨a0,a3,a1,a4,a2,a5,hc,f0,f1,f2⟩:=G6 h;simp only[TB,St,UL,TO] at hc;obtain⟨⟨rfl,rfl⟩,⟨rfl,rfl⟩,⟨rfl,rfl⟩⟩:=hc;exact⟨f0,f1,f2⟩
theorem Hh (s:gv):lC (oy s).1<=1200:=by
 unfold oy;split
 ·show (Ro 1200 (0:Int)).length+0<=1200
  rw[RJ];decide
 ·exact QX _
theorem Hb (s:gv)(n:Nat)(sl:Int):zI (pD s n sl)<=jP s+1201*n:=by
 have h:=Hh s;unfold zI pD lH;simp only[RJ,List.map_replicate,List.sum_replicate_nat];have:=Nat.mul_le_mul_left n h;omega
theorem Fz (s:gv)(n:Nat)(sl:Int)(h:n=0∨3<n):jd (pD s n sl)=I:=by
 unfold jd
 have:fT ((pD s n sl).fk.length) 1 3=I:=by
  unfold pD fT;simp only[RJ];rcases h with h | h
  ·subst h;rfl
  ·have:¬ ((n:Int)<=3):=by omega
   simp[this]
   try omega
 rw[this];simp
def rv (th:Int):Nat:=if th<=0 then 0 else if th<=3 then th.toNat else 4
theorem Mv {k:Nat} (h:k<rv th):(k:Int)<th/\(k:Int)<=3:=by
 unfold rv at h;split at h
 ·omega
 ·split at h <;> omega
theorem Mu:¬ ((rv th:Int)<th/\(rv th:Int)<=3):=by
 unfold rv;split
 ·omega
 ·split <;> omega
theorem Jw (s:gv)(th sl:Int):zx s th sl=if jd (pD s (rv th) sl)=M then (pD s (rv th) sl,M) else (wY,I):=by
 unfold zx rv;by_cases h0:th<=0
 ·rw[Q5 h0,QZ (by rw[zu];omega),QZ (by rw[Fz s 0 sl (.inl rfl)];simp)]
 ·rw[QZ h0]
  by_cases h3:th<=3
  ·rw[Q5 h3]
   have:fT th 1 3=M:=zu.2 ⟨by omega,h3⟩;simp only[this,UL]
  ·rw[QZ h3,QZ (by rw[zu];omega),QZ (by rw[Fz s 4 sl (.inr (by omega))];simp)]
theorem I9 (w W:U)(h:w.heap.size<=W.heap.size):fU mS w W [G D 0 0,G D 0 0,G D 0 0,G D 0 0,J C 0,J C 0,J C 0] wY:=by
 have n0:fD 0:=⟨by decide,by decide⟩
 exact⟨_,yF (x:=wY) (xM (x:=⟨[],[],[]⟩) (Has.nil iL 103 W).1 (Has.nil zr 3 W).1 (Has.nil zr 3 W).1) (Has.nil jX 41 W).1 n0 n0 n0,by simp,by simp⟩
theorem yy {g:Prop} (f:g:=by
  clear hge
  cases bp with
  | false=>
   have HQ:=fh hnp
   clear hnp
   go_wp2_with(go_at_call 47;(with_reducible refine(ziK (x:=⟨s,ts,0,sl,sl⟩) (Ty.up _ f0 gG) (Ty.up _ f1 gG) (Ty.up _ f2 gG) (Ty.up _ f3 gG) hsz).mono ?_);rw[HB.out];rintro e w3 ⟨rfl,os3,e3,rfl⟩;have e83:=zj hb.out (ft.of wr os3 e3);obtain⟨a0,a1,a2,a3,a4,a5,a6,af,al⟩:=zS e83;have err3:=zj err (ft.of wr os3 e3);obtain⟨y0,y1,y2,y3,y4,y5,y6,yf,yl⟩:=zS err3)
   have h9:=mK err (G D 0 0) (G D 0 0) (G D 0 0) (G D 0 0) (J C 0) (J C 0) (J C 0)
   generalize (((((((wr.setCell _ _).setCell _ _).setCell _ _).setCell _ _).setCell _ _).setCell _ _).setCell _ _)=QJ at h9 |-
   obtain⟨r0,r1,r2,r3,r4,r5,r6,_,_⟩:=zS (zj h9.1 (ft.of QJ os3 e3))
   have hG9:=(h9.2.fx hGr (fun b hb'=>by simp at hb';omega)).more os3 e3
   rw[HQ.out]
   refine QU (v:=.tuple #[.agg #[G D 0 0,G D 0 0,G D 0 0,G D 0 0,J C 0,J C 0,J C 0],H I]) (by simp[Rd,results35,go_sem,r0,r1,r2,r3,r4,r5,r6]) rfl ⟨D,0,D,0,D,0,D,0,rfl,I9 _ _ hG9.size,hG9⟩
  | true=>
   have HQ:=fh hnp
   clear hnp
   go_wp2_with(go_at_call 47;(with_reducible refine(ziK (x:=⟨s,ts,0,sl,sl⟩) (Ty.up _ f0 gG) (Ty.up _ f1 gG) (Ty.up _ f2 gG) (Ty.up _ f3 gG) hsz).mono ?_);rw[HB.out];rintro e w3 ⟨rfl,os3,e3,rfl⟩;have e83:=zj hb.out (ft.of wr os3 e3);obtain⟨a0,a1,a2,a3,a4,a5,a6,af,al⟩:=zS e83;have err3:=zj err (ft.of wr os3 e3);obtain⟨y0,y1,y2,y3,y4,y5,y6,yf,yl⟩:=zS err3)
   have h9:=mK err (G B0 s.fq.length d0) (G B1 s.fu.length d1) (G B2 s.Entries.length d2) (G A ts.length c) (J C 0) (J C sl) (J C sl)
   generalize (((((((wr.setCell _ _).setCell _ _).setCell _ _).setCell _ _).setCell _ _).setCell _ _).setCell _ _)=QJ at h9 |-
   obtain⟨r0,r1,r2,r3,r4,r5,r6,_,_⟩:=zS (zj h9.1 (ft.of QJ os3 e3))
   have hG9:=(h9.2.fx hGr (fun b hb'=>by simp at hb';omega)).more os3 e3
   rw[HQ.out]
   have hHs9:=(hHsw.fJ h9.2 (fun b hb' hm=>by have:=hls2 b hb';simp at hm;omega)).fx (ft.of QJ os3 e3)
   have hH9:=(hHr.fJ h9.2 (fun b hb' hm=>by have:=hS.out b hb';simp at hm;omega)).fx (ft.of QJ os3 e3)
   refine QU (v:=.tuple #[.agg #[G B0 s.fq.length d0,G B1 s.fu.length d1,G B2 s.Entries.length d2,G A ts.length c,J C 0,J C sl,J C sl],H M]) (by simp[Rd,results35,go_sem,r0,r1,r2,r3,r4,r5,r6]) rfl ⟨B0,d0,B1,d1,B2,d2,A,c,rfl,⟨_,yF (x:=⟨s,ts,0,sl,sl⟩) hHs9.1 hH9.1 n0 hsl hsl,?_,?_⟩,hG9⟩
   ·refine Rs.2 ⟨hHs9.2,hH9.2,fun a ha b hb' he=>?_⟩
    have h1:=hS.out b hb'
    have h2:=hlt8 a ha
    omega
   ·intro b hb'
    rcases Q7.1 hb' with hb' | hb'
    ·have:=hls2 b hb'
     omega
    ·have:=hS.out b hb'
     omega):g:=f
theorem zsR {sl:Int} (h0:(iL.sl 103).R w w.heap.size [G A0 s.fq.length c0] s.fq)(h1:(zr.sl 3).R w w.heap.size [G A1 s.fu.length c1] s.fu)
  (h2:(zr.sl 3).R w w.heap.size [G A2 s.Entries.length c2] s.Entries) (hs:jP s<=1099511600000) (ht:fD th) (hsl:fD sl) :
  Rh prog 35 #[.agg #[G A0 s.fq.length c0,G A1 s.fu.length c1,G A2 s.Entries.length c2],J C th,J C sl] w (Ny (zx s th sl) w):=by
 have ao:jP s<=1099511627776:=by omega
 obtain⟨m,hm⟩:∃ m,oy s=m:=⟨_,rfl⟩
 have HM:=fh hm;have aF:lC m.1<=1200:=by rw[<-hm];exact Hh s
 obtain⟨K,hK⟩:∃ K,rv th=K:=⟨_,rfl⟩
 have aa:=fh hK;have aD:K<=4:=by rw[<-hK];unfold rv;split <;> (try split) <;> omega
 clear hm hK;go_enter func35,ntmps35;go_wp2_with(go_at_call 72;(with_reducible refine(zjw (s:=s) (Ty.up _ h0 gG) (Ty.up _ h1 gG) (Ty.up _ h2 gG) ao).mono ?_);rintro e w1 ⟨B0,d0,B1,d1,B2,d2,rfl,ag,a7,e1,rfl⟩);have ah:ft w ((fx ((w.alloc (F #[G A0 s.fq.length c0,G A1 s.fu.length c1,G A2 s.Entries.length c2] 28)).alloc (F #[G D 0 0,G D 0 0,G D 0 0,G D 0 0,J C 0,J C 0,J C 0] 34)) a7 e1).alloc (F #[G B0 s.fq.length d0,G B1 s.fu.length d1,G B2 s.Entries.length d2,G D 0 0,J C 0,J C sl,J C sl] 34)):=gG;have eb:((fx ((w.alloc (F #[G A0 s.fq.length c0,G A1 s.fu.length c1,G A2 s.Entries.length c2] 28)).alloc (F #[G D 0 0,G D 0 0,G D 0 0,G D 0 0,J C 0,J C 0,J C 0] 34)) a7 e1).alloc (F #[G B0 s.fq.length d0,G B1 s.fu.length d1,G B2 s.Entries.length d2,G D 0 0,J C 0,J C sl,J C sl] 34)).heap[w.heap.size]?=Z (F #[G A0 s.fq.length c0,G A1 s.fu.length c1,G A2 s.Entries.length c2] 28 (0,0)):=zj (QO w _) gF;have er:((fx ((w.alloc (F #[G A0 s.fq.length c0,G A1 s.fu.length c1,G A2 s.Entries.length c2] 28)).alloc (F #[G D 0 0,G D 0 0,G D 0 0,G D 0 0,J C 0,J C 0,J C 0] 34)) a7 e1).alloc (F #[G B0 s.fq.length d0,G B1 s.fu.length d1,G B2 s.Entries.length d2,G D 0 0,J C 0,J C sl,J C sl] 34)).heap[w.heap.size+1]?=Z (F #[G D 0 0,G D 0 0,G D 0 0,G D 0 0,J C 0,J C 0,J C 0] 34 (0,0)):=zj (show ((w.alloc (F #[G A0 s.fq.length c0,G A1 s.fu.length c1,G A2 s.Entries.length c2] 28)).alloc (F #[G D 0 0,G D 0 0,G D 0 0,G D 0 0,J C 0,J C 0,J C 0] 34)).heap[w.heap.size+1]?=_ from by have h:=QO (w.alloc (F #[G A0 s.fq.length c0,G A1 s.fu.length c1,G A2 s.Entries.length c2] 28)) (F #[G D 0 0,G D 0 0,G D 0 0,G D 0 0,J C 0,J C 0,J C 0] 34);rw[Rf] at h;exact h) gF
 have e8:((fx ((w.alloc (F #[G A0 s.fq.length c0,G A1 s.fu.length c1,G A2 s.Entries.length c2] 28)).alloc (F #[G D 0 0,G D 0 0,G D 0 0,G D 0 0,J C 0,J C 0,J C 0] 34)) a7 e1).alloc (F #[G B0 s.fq.length d0,G B1 s.fu.length d1,G B2 s.Entries.length d2,G D 0 0,J C 0,J C sl,J C sl] 34)).heap[w.heap.size+1+1+a7.size]?=Z (F #[G B0 s.fq.length d0,G B1 s.fu.length d1,G B2 s.Entries.length d2,G D 0 0,J C 0,J C sl,J C sl] 34 (0,0)):=by
  have h:=QO (fx ((w.alloc (F #[G A0 s.fq.length c0,G A1 s.fu.length c1,G A2 s.Entries.length c2] 28)).alloc (F #[G D 0 0,G D 0 0,G D 0 0,G D 0 0,J C 0,J C 0,J C 0] 34)) a7 e1) (F #[G B0 s.fq.length d0,G B1 s.fu.length d1,G B2 s.Entries.length d2,G D 0 0,J C 0,J C sl,J C sl] 34);rw[lr,Rf,Rf] at h;exact h
 obtain⟨SS,a8,ak⟩:=fU.has ag;have ai:=a8.fx (W':=((fx ((w.alloc (F #[G A0 s.fq.length c0,G A1 s.fu.length c1,G A2 s.Entries.length c2] 28)).alloc (F #[G D 0 0,G D 0 0,G D 0 0,G D 0 0,J C 0,J C 0,J C 0] 34)) a7 e1).alloc (F #[G B0 s.fq.length d0,G B1 s.fu.length d1,G B2 s.Entries.length d2,G D 0 0,J C 0,J C sl,J C sl] 34))) gF;have hlt8:∀ b∈SS,b<w.heap.size+1+1+a7.size:=fun b hb=>by have h:=a8.lt b hb;rw[lr,Rf,Rf] at h;exact h
 have hls2:∀ b∈SS,w.heap.size+1<b:=fun b hb=>by have h:=ak b hb;rw[Rf,Rf] at h;omega
 clear ak a8 ag;obtain⟨g,hg⟩:∃ g,w.heap.size=g:=⟨_,rfl⟩
 rw[hg] at eb er e8 hlt8 hls2 |-;obtain⟨g8,ax⟩:∃ g8,g+1+1+a7.size=g8:=⟨_,rfl⟩
 rw[ax] at e8 hlt8 |-;generalize ((fx ((w.alloc _).alloc _) a7 e1).alloc _)=wc at ah eb er e8 ai |-;have ac:g≠g8:=by omega
 have ad:g+1≠g8:=by omega
 have aE:=(blt e8)
 go_loopw [9,10,11] (fun a b cc wr=>∃(k:Nat) (A:X Ri) (c:Nat) (S:Q Nat),a=J C k/\k<=K/\Hid (fw [g8] wc wr)/\Hid (wr.heap[g8]?=Z (F #[G B0 s.fq.length d0,G B1 s.fu.length d1,G B2 s.Entries.length d2,G A k c,J C 0,J C sl,J C sl] 34 (0,0)))/\Hid (Has (jX.sl 41) wr [G A k c] (Ro k m.1) S)/\Hid (∀ b∈S,wc.heap.size<=b)) (fun a _ _ _=>K-(Ry a).toNat)
 case atStart=>exact⟨0,D,0,[],rfl,QX _,fh (fw.refl _ _),fh e8,fh (Has.nil _ _ _),fh (by simp)⟩
 case round=>
  obtain⟨k,A,c,S,rfl,ay,ho,hb,hH,hS⟩:=hrel;have hGr:ft w wr:=ho.out.fx ah (fun b hb=>by simp at hb;omega);have aI:wc.heap.size<=wr.heap.size:=ho.out.size;have ap:=(ho.out.block g (blt eb) (by simpa using ac)).trans eb;have err:=(ho.out.block (g+1) (blt er) (by simpa using ad)).trans er;obtain⟨q0,q1,q2,_,ql⟩:=jc ap;obtain⟨p0,p1,p2,p3,p4,p5,p6,pf,pl⟩:=zS hb.out;obtain⟨z0,z1,z2,z3,z4,z5,z6,zf,zl⟩:=zS err;by_cases hlt:k<K
  ·have hr:=Mv (show k<rv th by rw[aa.out];exact hlt)
   have r0:decide ((k:Int)<th)=M:=QY hr.1;have r1:decide ((k:Int)<=3)=M:=QY hr.2;have aA:=Ty.up _ h0 hGr;have aB:=Ty.up _ h1 hGr;have aC:=Ty.up _ h2 hGr;have aG:=hr.1;have aH:=hr.2
   go_wp2_with(first
    | (go_at_call 76;(with_reducible refine(zwH (s:=s) (Ty.up _ aA gG) (Ty.up _ aB gG) (Ty.up _ aC gG) ao).mono ?_);rw[HM.out];rintro e w2 ⟨Am,cm,Ao,co,rfl,aq,aJ,e2,rfl⟩)
    | (at_builtin;obtain⟨Sy,au,am⟩:=fU.has aq;refine zC (L:=k+1) rfl (.tmp 32) (.tmp 34) Gq (hH.out.fx gF) (au.fx gF) (fun b hb' hm=>by have h1:=am b hm;have h2:=hH.out.lt b hb';omega) rfl rfl rfl (by intro j u hu;simpa[go_sem] using hu) rfl (by omega) (by omega) ?_;intro A7 c7 W7 S7 an ar av;have e7:=xW hb.out gF an (fun hm=>by have:=hS.out g8 hm;omega);obtain⟨a0,a1,a2,a3,a4,a5,a6,af,al⟩:=zS e7;have az:=zs ho.out gF an hS.out 3 (G A7 (k+1) c7);have aw:=jb (i:=3) (v:=G A7 (k+1) c7) e7 rfl;have aj:∀ b∈S7,wc.heap.size<=b:=fun b hb'=>(by rcases av b hb' with h | h | h;(exact hS.out b h);(have:=am b h;omega);(simp at h;omega));have hH9:=ar.fJ ((fw.refl [g8] W7).setCell (p:=⟨g8,3,D⟩) (by simp) (G A7 (k+1) c7)) (fun b hb' hm=>by have:=aj b hb';simp at hm;omega);rw[<-List.replicate_succ'] at hH9))
   go_roundw;exact⟨k+1,A7,c7,S7,by simp,by omega,fh az,fh aw,fh hH9,fh aj⟩;exact gH
  ·obtain rfl:k=K:=by omega
   obtain⟨ts,a9⟩:∃ ts,Ro k m.1=ts:=⟨_,rfl⟩
   have ae:k=ts.length:=by rw[<-a9,RJ]
   have hP:pD s k sl=⟨s,ts,0,sl,sl⟩:=by unfold pD;rw[HM.out,a9]
   have hsz:zI ⟨s,ts,0,sl,sl⟩<=1099511627776:=by rw[<-hP];have:=Hb s k sl;omega
   have hHr:=hH.out;rw[a9] at hHr;have hge:=Mu (th:=th);rw[aa.out] at hge;have hnp:=Jw s th sl;rw[aa.out,hP] at hnp;have n0:fD 0:=⟨by decide,by decide⟩
   have hHsw:=ai.fJ ho.out (fun b hb' hm=>by have:=hlt8 b hb';simp at hm;omega);obtain⟨f0,f1,f2⟩:=xF hHsw.read;have f3:=hHr.read;clear a9 hP hlt ay;subst ae;obtain⟨bp,ab⟩:∃ b,jd ⟨s,ts,0,sl,sl⟩=b:=⟨_,rfl⟩
   have HB:=fh ab;rw[ab] at hnp;clear ab;by_cases q:(ts.length:Int)<th
   ·have r0:decide ((ts.length:Int)<th)=M:=QY q
    have q3:¬ ((ts.length:Int)<=3):=fun h=>hge ⟨q,h⟩;have r1:decide ((ts.length:Int)<=3)=I:=QT q3;exact yy
   ·have r0:decide ((ts.length:Int)<th)=I:=QT q
    exact yy
theorem LA (s:gv)(th sl:Int):zI (zx s th sl).1<=jP s+3603:=by
 unfold zx;split
 ·rename_i h
  have h1:=zu.1 h.1;have h2:=Hb s th.toNat sl;show zI (pD s th.toNat sl)<=_;omega
 ·show zI wY<=_
  have h0:zI wY=0:=rfl;omega
structure J1 {α:Type}(T:Ty α)(Y W:U)(cs:Q Value)(x:α)(S:Q Nat)(go:Nat)(o:Obj):Prop where
 hx:Has T W cs x S
 la:∀ b∈S,Y.heap.size<=b
 hg:ft Y W
 ho:W.heap[go]?=Z o
 ng:go∉S
section
variable {α:Type} {T:Ty α} {Y W W':U} {cs:Q Value} {x:α} {S:Q Nat} {go:Nat} {o:Obj}
theorem J1.fx (h:J1 T Y W cs x S go o)(hg:ft W W'):J1 T Y W' cs x S go o:=⟨h.hx.fx hg,h.la,h.hg.trans hg,zj h.ho hg,h.ng⟩
theorem J1.cell {p:Ri}{v:Value}(h:J1 T Y W cs x S go o)(hc:Y.cell? p=Z v):W.cell? p=Z v:=oU h.hg hc
theorem J1.call {x':α} {cs':Q Value} {os:Array Obj} {d:Nat} (h:J1 T Y W cs x S go o)(hF:fU T W (Go.Proofs.YthgbglbaemelhaaGreat.fx W os d) cs' x'):∃ S',J1 T Y (Go.Proofs.YthgbglbaemelhaaGreat.fx W os d) cs' x' S' go o:=by
 obtain⟨S',h1,h2⟩:=fU.has hF;have hl:=(blt h.ho)
 have:=h.hg.size;exact⟨S',h1,fun b hb=>by have:=h2 b hb;omega,h.hg.more os d,zj h.ho (ft.of W os d),fun hm=>by have:=h2 go hm;omega⟩
theorem J1.alloc {cs':Array Value}{t:TypeId}(h:J1 T Y W cs x S go o):J1 T Y (W.alloc (F cs' t)) cs x S W.heap.size (F cs' t (0,0)):=
 ⟨h.hx.fx ((ft.refl _).alloc _),h.la,h.hg.alloc _,QO _ _,fun hm=>by have:=h.hx.lt _ hm;omega⟩
theorem J1.store {o':Obj} (h:J1 T Y W cs x S go o)(hon:fw [go] W W')(ho':W'.heap[go]?=Z o')(hgo:Y.heap.size<=go):J1 T Y W' cs x S go o':=
 ⟨h.hx.fJ hon (fun b hb hm=>h.ng (by simp at hm;exact hm ▸ hb)),h.la,hon.fx h.hg (fun b hb=>by simp at hb;omega),ho',h.ng⟩
end
theorem J1.start {Y:U} {go:Nat} {o:Obj} (ho:Y.heap[go]?=Z o):J1 kV Y Y [G D 0 0,G D 0 0,G D 0 0] ⟨[],[],[]⟩ [] go o:=
 ⟨⟨xM (x:=⟨[],[],[]⟩) (Has.nil iL 103 Y).1 (Has.nil zr 3 Y).1 (Has.nil zr 3 Y).1,by simp⟩,by simp,ft.refl _,ho,by simp⟩
theorem tV {g:Prop} (f:g:=by
  obtain⟨o0,o1,o2,o3,o4,o5,o6,of,ol⟩:=zS HJ.ho
  refine fA.last (by kernel_rfl) rfl (by kernel_rfl) (fun K hK=>?_)
  go_simp
  refine hK.out _ _ ?_
  clear hK
  try simp only[lay]
  have h2:=mK HJ.ho (G B0 x.fo.fq.length d0) (G B1 x.fo.fu.length d1) (G B2 x.fo.Entries.length d2) (G D 0 0) (J C x.fO) (J C x.Left) (J C x.Slice)
  have HJ:=HJ.store h2.2 h2.1 hgo
  go_wp2_with(fail)
  go_meet
  exact⟨_,B0,B1,B2,d0,d1,d2,SS,rfl,HJ,hgo⟩):g:=f
theorem zdb {x:fK} {A3:X Ri} {c3:Nat} (h0:(iL.sl 103).R w w.heap.size [G A0 x.fo.fq.length c0] x.fo.fq)(h1:(zr.sl 3).R w w.heap.size [G A1 x.fo.fu.length c1] x.fo.fu)
  (h2:(zr.sl 3).R w w.heap.size [G A2 x.fo.Entries.length c2] x.fo.Entries) (h3:(jX.sl 41).R w w.heap.size [G A3 x.fk.length c3] x.fk) (ht:fD x.fO) (hle:fD x.Left) (hsl:fD x.Slice) (hs:zI x<=1099511627776) :
  Rh prog 37 #[.agg #[G A0 x.fo.fq.length c0,G A1 x.fo.fu.length c1,G A2 x.fo.Entries.length c2,G A3 x.fk.length c3,J C x.fO,J C x.Left,J C x.Slice]] w (KR x w):=by
 have aD:jP x.fo<=1099511627776:=by unfold zI at hs;omega
 have aN:lH lC x.fk<=1099511627776:=by unfold zI at hs;omega
 go_enter func37,ntmps37;go_upto_region 1 with(fail);have ae:ft w ((w.alloc (F #[G A0 x.fo.fq.length c0,G A1 x.fo.fu.length c1,G A2 x.fo.Entries.length c2,G A3 x.fk.length c3,J C x.fO,J C x.Left,J C x.Slice] 34)).alloc (F #[G D 0 0,G D 0 0,G D 0 0,G D 0 0,J C 0,J C 0,J C 0] 34)):=gG;have eb:((w.alloc (F #[G A0 x.fo.fq.length c0,G A1 x.fo.fu.length c1,G A2 x.fo.Entries.length c2,G A3 x.fk.length c3,J C x.fO,J C x.Left,J C x.Slice] 34)).alloc (F #[G D 0 0,G D 0 0,G D 0 0,G D 0 0,J C 0,J C 0,J C 0] 34)).heap[w.heap.size]?=Z (F #[G A0 x.fo.fq.length c0,G A1 x.fo.fu.length c1,G A2 x.fo.Entries.length c2,G A3 x.fk.length c3,J C x.fO,J C x.Left,J C x.Slice] 34 (0,0)):=zj (QO w _) gF;have er:((w.alloc (F #[G A0 x.fo.fq.length c0,G A1 x.fo.fu.length c1,G A2 x.fo.Entries.length c2,G A3 x.fk.length c3,J C x.fO,J C x.Left,J C x.Slice] 34)).alloc (F #[G D 0 0,G D 0 0,G D 0 0,G D 0 0,J C 0,J C 0,J C 0] 34)).heap[w.heap.size+1]?=Z (F #[G D 0 0,G D 0 0,G D 0 0,G D 0 0,J C 0,J C 0,J C 0] 34 (0,0)):=by have h:=QO (w.alloc (F #[G A0 x.fo.fq.length c0,G A1 x.fo.fu.length c1,G A2 x.fo.Entries.length c2,G A3 x.fk.length c3,J C x.fO,J C x.Left,J C x.Slice] 34)) (F #[G D 0 0,G D 0 0,G D 0 0,G D 0 0,J C 0,J C 0,J C 0] 34);rw[Rf] at h;exact h
 have am:=Ty.up _ h0 ae;have an:=Ty.up _ h1 ae;have ao:=Ty.up _ h2 ae;have ay:=Ty.up _ h3 ae;obtain⟨g,hg⟩:∃ g,w.heap.size=g:=⟨_,rfl⟩
 have aI:g+1<((w.alloc (F #[G A0 x.fo.fq.length c0,G A1 x.fo.fu.length c1,G A2 x.fo.Entries.length c2,G A3 x.fk.length c3,J C x.fO,J C x.Left,J C x.Slice] 34)).alloc (F #[G D 0 0,G D 0 0,G D 0 0,G D 0 0,J C 0,J C 0,J C 0] 34)).heap.size:=by rw[Rf,Rf];omega
 rw[hg] at eb er |-;generalize ((w.alloc _).alloc _)=Y at ae eb er am an ao ay aI |-;obtain⟨y0,y1,y2,y3,y4,y5,y6,_,yl⟩:=zS eb;clear h0 h1 h2 h3;go_cut [3] from 3 to 15 (fun v3 wx=>∃(g8:Nat) (B0 B1 B2:X Ri) (d0 d1 d2:Nat) (SS:Q Nat),v3=.pointer (Z ⟨g8,0,D⟩)/\J1 kV Y wx [G B0 x.fo.fq.length d0,G B1 x.fo.fu.length d1,G B2 x.fo.Entries.length d2] x.fo SS g8 (F #[G B0 x.fo.fq.length d0,G B1 x.fo.fu.length d1,G B2 x.fo.Entries.length d2,G D 0 0,J C x.fO,J C x.Left,J C x.Slice] 34 (0,0))/\Y.heap.size<=g8)
 case first=>
  refine jT (fun w'=>QL w' ⟨g,0,D⟩=Z (G A0 x.fo.fq.length c0)/\QL w' ⟨g,1,D⟩=Z (G A1 x.fo.fu.length c1)/\QL w' ⟨g,2,D⟩=Z (G A2 x.fo.Entries.length c2)/\QL w' ⟨g,4,D⟩=Z (J C x.fO)/\QL w' ⟨g,5,D⟩=Z (J C x.Left)/\QL w' ⟨g,6,D⟩=Z (J C x.Slice)) 11 (by kernel_rfl) (QQ (zc y0) (QQ (zc y1) (QQ (zc y2) (QQ (zc y4) (QQ (zc y5) (zc y6)))))) (fun a7=>?_);have HJ:=(J1.start er).fx ((ft.refl Y).drew);generalize hYd:Y.drew=Wx at HJ a7 |-;clear hYd;refine .tq 0 [11] a7 ?_;refine .tq 1 [11] a7 ?_;refine .tq 3 [11] a7 ?_;refine .tq 4 [11] a7 ?_;refine .tq 5 [11] a7 ?_;refine .tq 6 [11] a7 ?_;refine .tq 7 [11] a7 ?_;refine .tq 8 [11] a7 ?_;refine fA.pd (i:=2) (j:=10) (by kernel_rfl) rfl rfl (fun K hK=>?_) (fun K hK=>?_)
  ·go_simp
   go_at_call 78
   with_reducible refine(zjv (s:=x.fo) (Ty.up _ am HJ.hg) (Ty.up _ an HJ.hg) (Ty.up _ ao HJ.hg) aD).mono ?_
   rintro e w2 ⟨B0,d0,B1,d1,B2,d2,rfl,ak,aq,e1,rfl⟩;obtain⟨SS,HJ⟩:=HJ.call ak;have a7:=QQ (HJ.cell y0) (QQ (HJ.cell y1) (QQ (HJ.cell y2) (QQ (HJ.cell y4) (QQ (HJ.cell y5) (HJ.cell y6)))));refine hK.out _ _ a7 ?_;clear hK;generalize fx Wx aq e1=Wx at HJ a7 |-
   try simp only[lay]
   refine .tq 9 [11] a7 ?_;refine fA.gQ (i:=10) (by kernel_rfl) rfl (fun K hK=>?_)
   ·go_simp
    have hgo:=HJ.hg.size;have HJ:=HJ.alloc (cs':=#[G D 0 0,G D 0 0,G D 0 0,G D 0 0,J C 0,J C 0,J C 0]) (t:=34);have a7:=QQ (HJ.cell y0) (QQ (HJ.cell y1) (QQ (HJ.cell y2) (QQ (HJ.cell y4) (QQ (HJ.cell y5) (HJ.cell y6)))));refine hK.out _ _ a7 ?_;clear hK;generalize RR _ (F #[G D 0 0,G D 0 0,G D 0 0,G D 0 0,J C 0,J C 0,J C 0] 34)=Wx at HJ a7 |-
    try simp only[lay]
    exact tV
  ·go_simp
   have hgo:=HJ.hg.size;have HJ:=HJ.alloc (cs':=#[G D 0 0,G D 0 0,G D 0 0,G D 0 0,J C 0,J C 0,J C 0]) (t:=34);have a7:=QQ (HJ.cell y0) (QQ (HJ.cell y1) (QQ (HJ.cell y2) (QQ (HJ.cell y4) (QQ (HJ.cell y5) (HJ.cell y6)))));refine hK.out _ _ a7 ?_;clear hK;generalize RR _ (F #[G D 0 0,G D 0 0,G D 0 0,G D 0 0,J C 0,J C 0,J C 0] 34)=Wx at HJ a7 |-
   try simp only[lay]
   refine fA.gQ (i:=2) (by kernel_rfl) rfl (fun K hK=>?_)
   ·go_simp
    go_at_call 78
    with_reducible refine(zjv (s:=x.fo) (Ty.up _ am HJ.hg) (Ty.up _ an HJ.hg) (Ty.up _ ao HJ.hg) aD).mono ?_
    rintro e w2 ⟨B0,d0,B1,d1,B2,d2,rfl,ak,aq,e1,rfl⟩;obtain⟨SS,HJ⟩:=HJ.call ak;have a7:=QQ (HJ.cell y0) (QQ (HJ.cell y1) (QQ (HJ.cell y2) (QQ (HJ.cell y4) (QQ (HJ.cell y5) (HJ.cell y6)))));refine hK.out _ _ a7 ?_;clear hK;generalize fx Wx aq e1=Wx at HJ a7 |-
    try simp only[lay]
    refine .tq 9 [11] a7 ?_;exact tV
 case rest=>
  obtain⟨g8,B0,B1,B2,d0,d1,d2,SS,rfl,HJ,hgo⟩:=hcut;have aL:g≠g8:=by omega
  have aV:=(blt HJ.ho)
  have aS:=HJ.cell y3;go_wp2_with(fail);go_loopw [19] (fun a wr=>∃(k:Nat) (A:X Ri) (c:Nat) (S:Q Nat),a=J C k/\k<=x.fk.length/\Hid (fw [g8] wc wr)/\Hid (wr.heap[g8]?=Z (F #[G B0 x.fo.fq.length d0,G B1 x.fo.fu.length d1,G B2 x.fo.Entries.length d2,G A k c,J C x.fO,J C x.Left,J C x.Slice] 34 (0,0)))/\Hid (Has (jX.sl 41) wr [G A k c] (x.fk.take k) S)/\Hid (∀ b∈S,wc.heap.size<=b)) (fun a _=>x.fk.length-(Ry a).toNat)
  case atStart=>exact⟨0,D,0,[],rfl,QX _,fh (fw.refl _ _),fh HJ.ho,fh (Has.nil _ _ _),fh (by simp)⟩
  case round=>
   obtain⟨k,A,c,S,rfl,hk,ho,hb,hH,hS⟩:=hrel;have ab:ft Y wr:=ho.out.fx HJ.hg (fun b hb=>by simp at hb;omega);have aX:wc.heap.size<=wr.heap.size:=ho.out.size;have ar:=zj er ab;have q3:=oU ab y3;obtain⟨o0,o1,o2,o3,o4,o5,o6,of,ol⟩:=zS hb.out;obtain⟨z0,z1,z2,z3,z4,z5,z6,zf,zl⟩:=zS ar;by_cases hlt:k<x.fk.length
   ·obtain⟨gI,aY,y,Aa,ca,Ab,cb,rfl,aU,aE,m0,m1,m2,m3,m4,m5,m6,p0,p1,p2,p3,p4,p5,p6⟩:=yZ ay hlt
    have n0:=oU ab m0;have n1:=oU ab m1;have n2:=oU ab m2;have n3:=oU ab m3;have n4:=oU ab m4;have n5:=oU ab m5;have n6:=oU ab m6;have r3:=Ty.up _ p3 ab;have r4:=Ty.up _ p4 ab;have aM:(k:Int)<(x.fk.length:Int):=by omega
    have aW:x.fk.length<=1099511627776:=by unfold lH at aN;omega
    have aP:lC y<=1099511627776:=by have h1:=vM lC aE;omega
    clear m0 m1 m2 m3 m4 m5 m6;go_upto_region 5 with(fail);have ag:ft wr (wr.alloc (F #[J C y.Pc,J C y.Sp,J C y.Fp,G Aa y.Stack.length ca,G Ab y.Out.length cb,J C y.State,J C y.Value] 41)):=gG;have eV:(wr.alloc (F #[J C y.Pc,J C y.Sp,J C y.Fp,G Aa y.Stack.length ca,G Ab y.Out.length cb,J C y.State,J C y.Value] 41)).heap[wr.heap.size]?=Z (F #[J C y.Pc,J C y.Sp,J C y.Fp,G Aa y.Stack.length ca,G Ab y.Out.length cb,J C y.State,J C y.Value] 41 (0,0)):=QO _ _;obtain⟨b5,aJ⟩:∃ b5,wr.heap.size=b5:=⟨_,rfl⟩
    rw[aJ] at eV |-;generalize wr.alloc _=QH at ag eV |-;have aK:=zj hb.out ag;have aG:=hH.out.fx ag;have aQ:=Ty.up _ r3 ag;have aR:=Ty.up _ r4 ag;obtain⟨v0,v1,v2,v3,v4,v5,v6,_,vl⟩:=zS eV;clear o0 o1 o2 o3 o4 o5 o6 of ol;obtain⟨o0,o1,o2,o3,o4,o5,o6,of,ol⟩:=zS aK;refine jT (fun w'=>QL w' ⟨g8,3,D⟩=Z (G A k c)/\QL w' ⟨b5,0,D⟩=Z (J C y.Pc)/\QL w' ⟨b5,1,D⟩=Z (J C y.Sp)/\QL w' ⟨b5,2,D⟩=Z (J C y.Fp)/\QL w' ⟨b5,3,D⟩=Z (G Aa y.Stack.length ca)/\QL w' ⟨b5,4,D⟩=Z (G Ab y.Out.length cb)/\QL w' ⟨b5,5,D⟩=Z (J C y.State)/\QL w' ⟨b5,6,D⟩=Z (J C y.Value)) 7 (by kernel_rfl) (QQ (zc o3) (QQ (zc v0) (QQ (zc v1) (QQ (zc v2) (QQ (zc v3) (QQ (zc v4) (QQ (zc v5) (zc v6)))))))) (fun a7=>?_);refine .tq 0 [7] a7 ?_;refine .tq 1 [7] a7 ?_;refine .tq 2 [7] a7 ?_;refine fA.gQ (i:=3) (by kernel_rfl) rfl (fun K hK=>?_)
    ·go_simp
     go_at_call 79
     with_reducible refine(zhu (x:=y) p0 p1 p2 (Ty.up _ aQ gG) (Ty.up _ aR gG) p5 p6 aP).mono ?_
     rintro e w2 ⟨Ba,ea,Bb,ad,rfl,aF,a9,e2,rfl⟩;have a7:=QQ (zd (zc o3) a9 e2) (QQ (zd (zc v0) a9 e2) (QQ (zd (zc v1) a9 e2) (QQ (zd (zc v2) a9 e2) (QQ (zd (zc v3) a9 e2) (QQ (zd (zc v4) a9 e2) (QQ (zd (zc v5) a9 e2) (zd (zc v6) a9 e2)))))));refine hK.out _ _ a7 ?_;clear hK
     try simp only[lay]
     refine fA.gQ (i:=4) (by kernel_rfl) rfl (fun K hK=>?_)
     ·go_simp
      have a7:=QQ (zk (zd (zc o3) a9 e2) (F #[J C y.Pc,J C y.Sp,J C y.Fp,G Ba y.Stack.length ea,G Bb y.Out.length ad,J C y.State,J C y.Value] 41)) (QQ (zk (zd (zc v0) a9 e2) (F #[J C y.Pc,J C y.Sp,J C y.Fp,G Ba y.Stack.length ea,G Bb y.Out.length ad,J C y.State,J C y.Value] 41)) (QQ (zk (zd (zc v1) a9 e2) (F #[J C y.Pc,J C y.Sp,J C y.Fp,G Ba y.Stack.length ea,G Bb y.Out.length ad,J C y.State,J C y.Value] 41)) (QQ (zk (zd (zc v2) a9 e2) (F #[J C y.Pc,J C y.Sp,J C y.Fp,G Ba y.Stack.length ea,G Bb y.Out.length ad,J C y.State,J C y.Value] 41)) (QQ (zk (zd (zc v3) a9 e2) (F #[J C y.Pc,J C y.Sp,J C y.Fp,G Ba y.Stack.length ea,G Bb y.Out.length ad,J C y.State,J C y.Value] 41)) (QQ (zk (zd (zc v4) a9 e2) (F #[J C y.Pc,J C y.Sp,J C y.Fp,G Ba y.Stack.length ea,G Bb y.Out.length ad,J C y.State,J C y.Value] 41)) (QQ (zk (zd (zc v5) a9 e2) (F #[J C y.Pc,J C y.Sp,J C y.Fp,G Ba y.Stack.length ea,G Bb y.Out.length ad,J C y.State,J C y.Value] 41)) (zk (zd (zc v6) a9 e2) (F #[J C y.Pc,J C y.Sp,J C y.Fp,G Ba y.Stack.length ea,G Bb y.Out.length ad,J C y.State,J C y.Value] 41))))))));refine hK.out _ _ a7 ?_;clear hK
      try simp only[lay]
      refine fA.gQ (i:=5) (by kernel_rfl) rfl (fun K hK=>?_)
      ·obtain⟨Sy,aH,aB⟩:=fU.has aF
       have ap:∀ b∈S,b∉Sy:=fun b a8 hm=>by have h1:QH.heap.size<=b:=aB b hm;have h2:=aG.lt b a8;omega
       have ah:ft wr ((fx QH a9 e2).alloc (F #[J C y.Pc,J C y.Sp,J C y.Fp,G Ba y.Stack.length ea,G Bb y.Out.length ad,J C y.State,J C y.Value] 41)):=(ag.trans (ft.of QH a9 e2)).alloc _;have aa:b5∉S:=fun hm=>by have:=hH.out.lt b5 hm;omega
       refine wo (L:=k+1) rfl (.tmp 24) (.tmp 27) Gq (hH.out.fx ah) (aH.fx gF) ap rfl rfl rfl (by intro j u hu;simpa[go_sem] using hu) rfl (by omega) (by omega) ?_;intro A7 c7 W7 S7 ac au aw;have az:∀ i,i<wc.heap.size->i∉S:=fun i hi hm=>by have:=hS.out i hm;omega
       have e7:=xW hb.out ah ac (az _ (by omega));have a7:=QQ (zz o3 gF ac (az _ (by omega))) (QQ (zz v0 gF ac aa) (QQ (zz v1 gF ac aa) (QQ (zz v2 gF ac aa) (QQ (zz v3 gF ac aa) (QQ (zz v4 gF ac aa) (QQ (zz v5 gF ac aa) (zz v6 gF ac aa)))))))
       have aA:∀ b∈S7,wc.heap.size<=b:=fun b a8=>by
        have:=ag.size;rcases aw b a8 with h | h | h
        ·exact hS.out b h
        ·have h8:QH.heap.size<=b:=aB b h
         omega
        ·have:=ah.size;omega
       have aC:=zs ho.out ah ac hS.out 3 (G A7 (k+1) c7);have ax:=jb (i:=3) (v:=G A7 (k+1) c7) e7 rfl;have ai:=au.fJ ((fw.refl [g8] W7).setCell (p:=⟨g8,3,D⟩) (by simp) (G A7 (k+1) c7)) (fun b a8 hm=>by have:=aA b a8;simp at hm;omega);refine hK.out _ _ a7 ?_;clear hK
       try simp only[lay]
       refine .tq 6 [7] a7 ?_;obtain⟨a0,a1,a2,a3,a4,a5,a6,af,al⟩:=zS e7;refine fA.last (by kernel_rfl) rfl (by kernel_rfl) (fun K hK=>?_);go_simp;refine hK.out _ _ ?_;clear hK
       try simp only[lay]
       generalize W7.setCell _ _=QJ at aC ax ai |-;clear a7 ac au aw e7 hb hH ho;have aO:x.fk.take k++[y]=x.fk.take (k+1):=by rw[RH,aE];rfl
       rw[aO] at ai;go_wp2_with(fail);go_roundw;exact⟨k+1,A7,c7,S7,by simp,by omega,fh aC,fh ax,fh ai,fh aA⟩;exact gH
   ·obtain rfl:k=x.fk.length:=by omega
    have aM:¬ (x.fk.length:Int)<(x.fk.length:Int):=by omega
    have av:=hH.out;rw[RX] at av;go_wp2_with(fail);have h9:=mK ar (G B0 x.fo.fq.length d0) (G B1 x.fo.fu.length d1) (G B2 x.fo.Entries.length d2) (G A x.fk.length c) (J C x.fO) (J C x.Left) (J C x.Slice);obtain⟨r0,r1,r2,r3,r4,r5,r6,_,_⟩:=zS h9.1;have aT:w.heap.size<=Y.heap.size:=ae.size;have ah:=h9.2.fx (ae.trans ab) (fun b a8=>by simp at a8;omega);have aj:=(HJ.hx.fJ ho.out (fun b a8 hm=>by simp at hm;exact HJ.ng (hm ▸ a8))).fJ h9.2 (fun b a8 hm=>by have:=HJ.la b a8;simp at hm;omega);have ai:=av.fJ h9.2 (fun b a8 hm=>by have:=hS.out b a8;simp at hm;omega);refine QU (v:=.agg #[G B0 x.fo.fq.length d0,G B1 x.fo.fu.length d1,G B2 x.fo.Entries.length d2,G A x.fk.length c,J C x.fO,J C x.Left,J C x.Slice]) (by simp[Rd,results37,go_sem,r0,r1,r2,r3,r4,r5,r6]) rfl ⟨B0,d0,B1,d1,B2,d2,A,c,rfl,⟨_,yF aj.1 ai.1 ht hle hsl,?_,?_⟩,ah⟩
    ·refine Rs.2 ⟨aj.2,ai.2,fun a ha b a8 he=>?_⟩
     have h1:=hS.out b a8;have h2:=HJ.hx.lt a ha;omega
    ·intro b a8
     rcases Q7.1 a8 with a8 | a8
     ·have:=HJ.la b a8
      omega
     ·have:=hS.out b a8
      omega
end Go.Proofs.YthgbglbaemelhaaGreat
