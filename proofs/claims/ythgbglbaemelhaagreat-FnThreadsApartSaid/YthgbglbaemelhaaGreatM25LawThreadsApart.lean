/-
  PART.
-/
import Derived.Test.YthgbglbaemelhaaGreatM18LawThreadsApart
import Derived.Test.YthgbglbaemelhaaGreatM24LawThreadsApart
set_option linter.unusedVariables false
set_option linter.unusedSimpArgs false
set_option maxRecDepth 100000
set_option maxHeartbeats 8000000
namespace Go.Proofs.YthgbglbaemelhaaGreat
open Value renaming slice->G,int->J
open IntKind renaming i64->Z
open Option renaming none->C,some->D
open Obj renaming cells->F
open Bool renaming false->I,true->M
open Go renaming World->U,results->Rv,Calls->RD,Addr->RJ,TypeId->R5,yielded->Th
open World renaming cell?->Rb,frozen?->Rx
open _root_.Int renaming toNat_natCast->Ry
open RowKit renaming intOf->RS,wrap64->SN
open _root_.Nat renaming add_zero->Sr
open List renaming sum_cons->Tu
open Region renaming wanted->RV,ready->Sn,noSelect->TZ,Mode->Ub,free->Wu
open Tryz
open Go.RowKit
variable {A0 A1 A2 A3:X RJ}{B:Q (Nat × Obj)}{Ra c0 c1 c2 c3 f gp k t:Nat}{S0 S3:Q Nat}{W Y w:U}{a v:Int}{m m':fv}{moved:Bool}{x:fO}
def tD (x:fO)(t:Nat)(m:fv)(moved:Bool):fO:=
 let left:=(if moved=M then x.ws else x.EQ)-1
 { x with fq:=x.fq.set t (ji x.fk m),fR:=if left=0 then (((t+1) % x.fq.length:Nat):Int) else (t:Int),EQ:=if left=0 then x.ws else left }
def mG (x:fO):Nat->Nat->fO × Int
 | 0,_=>(x,-1)
 | f+1,k=>match x.fq[(x.fR.toNat+k) % x.fq.length]? with
  | some m=>if m.rc=0 then (tD x ((x.fR.toNat+k) % x.fq.length) m (decide (0<k)),(((x.fR.toNat+k) % x.fq.length:Nat):Int)) else mG x f (k+1)
  | none=>(x,-1)
def mT (x:fO):fO × Int:=mG x x.fq.length 0
structure kL (Ra:Nat)(x:fO):Prop where
 sp:zZ x.fk=M
 n1:1<=x.fq.length
 n3:x.fq.length<=3
 t0:0<=x.fR
 t1:x.fR<x.fq.length
 l1:1<=x.EQ
 l2:x.EQ<=x.ws
 s1:x.ws<=1000
 ms:∀ m∈x.fq,kX Ra m
theorem kL.wS (h:kL Ra x):x.fk.fo.length=x.fk.ft.length/\(∀ i∈x.fk.fo,i.Code.size<=1099511627776)/\∀ b∈x.fk.ft,fP b 1 1000000=M:=by
 have h1:=h.sp;simp only[zZ,Rq,RC,Td] at h1;refine⟨K9,fun i hi=>?_,h1.1.1.2⟩;have h2:=h1.1.1.1.2 i hi;simp only[jw,Rq,RC] at h2;omega
theorem kX.up (h:kX Ra m):kX (Ra+1) m:=⟨h.len,by have:=h.out;omega,h.pc,h.sp,h.fp,h.st,h.va⟩
theorem kL.up {Ra:Nat}{x:fO}(h:kL Ra x):kL (Ra+1) x:=⟨h.sp,h.n1,h.n3,h.t0,h.t1,h.l1,h.l2,h.s1,fun m hm=>(h.ms m hm).up⟩
theorem yZ {left:Int} (hl:(if moved=M then x.ws else x.EQ)-1=left):tD x t m moved = { x with fq:=x.fq.set t (ji x.fk m),fR:=if left=0 then (((t+1) % x.fq.length:Nat):Int) else (t:Int),EQ:=if left=0 then x.ws else left }:=by
 subst hl;rfl
theorem kL.xR (h:kL Ra x)(hm:kX (Ra+1) (ji x.fk m))(ht:t<x.fq.length):kL (Ra+1) (tD x t m moved):=by
 have hn:(x.fq.set t (ji x.fk m)).length=x.fq.length:=RP;have h1:=h.l1;have h2:=h.l2;have h3:=h.n1;have h5:=h.n3;have h4:(t+1) % x.fq.length<x.fq.length:=Va _ K9;obtain⟨left,hl⟩:∃ l:Int,(if moved=M then x.ws else x.EQ)-1=l:=⟨_,rfl⟩
 have a0:0<=left/\left<x.ws:=by
  cases moved with
  | true=>rw[Rs rfl] at hl;omega
  | false=>rw[Ro II] at hl;omega
 rw[yZ hl]
 have hT:0<=(if left=0 then (((t+1) % x.fq.length:Nat):Int) else (t:Int))/\(if left=0 then (((t+1) % x.fq.length:Nat):Int) else (t:Int))<(x.fq.length:Int):=by
  split <;> omega
 have hL:1<=(if left=0 then x.ws else left)/\(if left=0 then x.ws else left)<=x.ws:=by
  split <;> omega
 refine⟨h.sp,by rw[hn];exact h3,by rw[hn];exact h5,hT.1,by rw[hn];exact hT.2,hL.1,hL.2,h.s1,fun y hy=>?_⟩;rcases TW hy with hy | rfl
 ·exact(h.ms y hy).up
 ·exact hm
theorem zw (hm:x.fq[(x.fR.toNat+k) % x.fq.length]?=D m)(hs:¬ m.rc=0):mG x (f+1) k=mG x f (k+1):=by
 rw[mG,hm];exact Ro hs
theorem Ak (hm:x.fq[(x.fR.toNat+k) % x.fq.length]?=D m)(hs:m.rc=0):mG x (f+1) k=(tD x ((x.fR.toNat+k) % x.fq.length) m (decide (0<k)),(((x.fR.toNat+k) % x.fq.length:Nat):Int)):=by
 rw[mG,hm];exact Rs hs
structure km (B:Q (Nat × Obj))(Y W:U)(gp:Nat)(x:fO)(A0:X RJ)(c0:Nat)(A1:X RJ)(c1:Nat)(A2:X RJ)(c2:Nat)(A3:X RJ)(c3:Nat)(S0 S3:Q Nat):Prop where
 box:W.heap[gp]?=D (F #[G A0 x.fk.fo.length c0,G A1 x.fk.ft.length c1,G A2 x.fk.ii.length c2,G A3 x.fq.length c3,J Z x.fR,J Z x.EQ,J Z x.ws] 34 (0,0))
 sp:Has kY W [G A0 x.fk.fo.length c0,G A1 x.fk.ft.length c1,G A2 x.fk.ii.length c2] x.fk S0
 th:Has (zG.sl 41) W [G A3 x.fq.length c3] x.fq S3
 jj:∀ b∈S0,b∉S3
 g0:gp∉S0
 g3:gp∉S3
 fy:fu Y W
 lg:Y.heap.size<=gp
 l0:∀ b∈S0,Y.heap.size<=b
 l3:∀ b∈S3,Y.heap.size<=b
 kb:∀ p∈B,W.heap[p.1]?=D p.2/\p.1≠gp/\p.1∉S0/\p.1∉S3
section
variable {B:Q (Nat × Obj)} {Y W W':U} {gp:Nat} {x:fO} {A0 A1 A2 A3:X RJ} {c0 c1 c2 c3:Nat} {S0 S3:Q Nat}
theorem km.pW (h:km B Y W gp x A0 c0 A1 c1 A2 c2 A3 c3 S0 S3)(hg:fu W W'):km B Y W' gp x A0 c0 A1 c1 A2 c2 A3 c3 S0 S3:=
 ⟨zj h.box hg,h.sp.fy hg,h.th.fy hg,h.jj,h.g0,h.g3,h.fy.trans hg,h.lg,h.l0,h.l3,fun p hp=>⟨zj (h.kb p hp).1 hg,(h.kb p hp).2⟩⟩
theorem km.kept (h:km B Y W gp x A0 c0 A1 c1 A2 c2 A3 c3 S0 S3){g:Nat}{o:Obj}(hp:(g,o)∈B):W.heap[g]?=D o:=(h.kb (g,o) hp).1
theorem km.num {t l:Int} (h:km B Y W gp x A0 c0 A1 c1 A2 c2 A3 c3 S0 S3){i:Nat}{v:Value}
  (hrow:∀ a b c d e,(#[a,b,c,d,J Z x.fR,J Z x.EQ,e]:Array Value).setIfInBounds i v=#[a,b,c,d,J Z t,J Z l,e]) :
  km B Y (W.setCell ⟨gp,i,C⟩ v) gp { x with fR:=t,EQ:=l } A0 c0 A1 c1 A2 c2 A3 c3 S0 S3:=by
 have a0:fx [gp] W (W.setCell ⟨gp,i,C⟩ v):=(fx.refl _ _).setCell (p:=⟨gp,i,C⟩) (by simp) _;refine⟨jd (i:=i) (v:=v) h.box (hrow _ _ _ _ _),h.sp.fJ a0 (fun b hb hm=>h.g0 (by simp at hm;exact hm ▸ hb)),h.th.fJ a0 (fun b hb hm=>h.g3 (by simp at hm;exact hm ▸ hb)),h.jj,h.g0,h.g3,a0.fy h.fy (fun b hb=>by simp at hb;exact hb ▸ h.lg),h.lg,h.l0,h.l3,fun p hp=>?_⟩;obtain⟨h1,h2,h3,h4⟩:=h.kb p hp;exact⟨(a0.block p.1 (blt h1) (by simpa using h2)).trans h1,h2,h3,h4⟩
theorem km.WR (h:km B Y W gp x A0 c0 A1 c1 A2 c2 A3 c3 S0 S3){t:Nat}{m:fv}(hm:x.fq[t]?=D m) :
  ∃ gt A4 c4 A5 c5,A3=D ⟨gt,0,C⟩/\gt<W.heap.size/\gt≠gp/\(∀ j,Rx W ⟨gt,j,C⟩=I)/\
   (Rb W ⟨gt,t*7,C⟩=D (J Z m.Pc)/\Rb W ⟨gt,t*7+1,C⟩=D (J Z m.Sp)/\Rb W ⟨gt,t*7+2,C⟩=D (J Z m.Fp)/\Rb W ⟨gt,t*7+3,C⟩=D (G A4 m.pm.length c4)/\Rb W ⟨gt,t*7+4,C⟩=D (G A5 m.If.length c5)/\Rb W ⟨gt,t*7+5,C⟩=D (J Z m.rc)/\Rb W ⟨gt,t*7+6,C⟩=D (J Z m.Value))/\
   (zr.sl 3).R W W.heap.size [G A4 m.pm.length c4] m.pm/\(zr.sl 3).R W W.heap.size [G A5 m.If.length c5] m.If/\
   ∀ w2,fu W w2->∀(y:fv) B0 d0 B1 d1,(fU zG W w2 [J Z y.Pc,J Z y.Sp,J Z y.Fp,G B0 y.pm.length d0,G B1 y.If.length d1,J Z y.rc,J Z y.Value] y∨(y = { m with rc:=2 }/\B0=A4/\d0=c4/\B1=A5/\d1=c5))->
    ∃ S3',km B Y (((((((w2.setCell ⟨gt,t*7,C⟩ (J Z y.Pc)).setCell ⟨gt,t*7+1,C⟩ (J Z y.Sp)).setCell ⟨gt,t*7+2,C⟩ (J Z y.Fp)).setCell ⟨gt,t*7+3,C⟩ (G B0 y.pm.length d0)).setCell ⟨gt,t*7+4,C⟩ (G B1 y.If.length d1)).setCell ⟨gt,t*7+5,C⟩ (J Z y.rc)).setCell ⟨gt,t*7+6,C⟩ (J Z y.Value)) gp { x with fq:=x.fq.set t y } A0 c0 A1 c1 A2 c2 A3 c3 S0 S3':=by
 obtain⟨gt,ec,Sc,rfl,a8,am,_,_,ai,ak,a6,_⟩:=Di h.th hm;obtain⟨A4,c4,Sa,A5,c5,Sb,rfl,rfl,p0,p1,p2,o3,o4,p5,p6⟩:=yp ai.1;have hc:∀ j u,[J Z m.Pc,J Z m.Sp,J Z m.Fp,G A4 m.pm.length c4,G A5 m.If.length c5,J Z m.rc,J Z m.Value][j]?=D u->Rb W ⟨gt,t*7+j,C⟩=D u:=a6;refine⟨gt,A4,c4,A5,c5,rfl,am,fun e=>h.g3 (e ▸ a8),ak,⟨hc 0 _ rfl,hc 1 _ rfl,hc 2 _ rfl,hc 3 _ rfl,hc 4 _ rfl,hc 5 _ rfl,hc 6 _ rfl⟩,Ty.read _ o3,Ty.read _ o4,fun w2 hg2 y B0 d0 B1 d1 hy=>?_⟩;have h2:=h.pW hg2;obtain⟨aA,az,ah,hA,al,an,_,ac,a5,_,a0,aa⟩:=Di h2.th hm;injection hA with hA
 injection hA with hA
 subst hA
 obtain⟨Sy,aj,a7⟩:∃ Sy,Has zG w2 [J Z y.Pc,J Z y.Sp,J Z y.Fp,G B0 y.pm.length d0,G B1 y.If.length d1,J Z y.rc,J Z y.Value] y Sy/\∀ b∈Sy,W.heap.size<=b∨b∈ah:=by
  rcases hy with hy | ⟨rfl,rfl,rfl,rfl,rfl⟩
  ·obtain⟨S,h1,h2⟩:=fU.has hy
   exact⟨S,h1,fun b hb=>.inl (h2 b hb)⟩
  ·obtain⟨A6,c6,ax,A7,c7,ay,rfl,rfl,ar,au,av,ap,aq,aC,aw⟩:=yp a5.1
   have e3:=(a0 3 _ rfl).symm.trans (pz hg2 (hc 3 _ rfl));have e4:=(a0 4 _ rfl).symm.trans (pz hg2 (hc 4 _ rfl));injection e3 with e3
   injection e3 with a1 a2 a3
   injection e4 with e4
   injection e4 with b1 b2 b3
   subst a1 a3 b1 b3;exact⟨_,⟨xX (x:={ m with rc:=2 }) ar au av ap aq ⟨by show (-9223372036854775808:Int)<=2;decide,by show (2:Int)<=9223372036854775807;decide⟩ aw,a5.2⟩,fun b hb=>.inr hb⟩
 have af:=h.th.lt
 obtain⟨a4,S',ag,ad⟩:=aa [J Z y.Pc,J Z y.Sp,J Z y.Fp,G B0 y.pm.length d0,G B1 y.If.length d1,J Z y.rc,J Z y.Value] y Sy aj (fun b hb=>by
  rcases a7 b hb with h1 | h1
  ·exact .inl (fun hm=>by have:=af b hm;omega)
  ·exact .inr h1)
 have ab:setRow w2 gt (t*zG.size) 0 [J Z y.Pc,J Z y.Sp,J Z y.Fp,G B0 y.pm.length d0,G B1 y.If.length d1,J Z y.rc,J Z y.Value]=(((((((w2.setCell ⟨gt,t*7,C⟩ (J Z y.Pc)).setCell ⟨gt,t*7+1,C⟩ (J Z y.Sp)).setCell ⟨gt,t*7+2,C⟩ (J Z y.Fp)).setCell ⟨gt,t*7+3,C⟩ (G B0 y.pm.length d0)).setCell ⟨gt,t*7+4,C⟩ (G B1 y.If.length d1)).setCell ⟨gt,t*7+5,C⟩ (J Z y.rc)).setCell ⟨gt,t*7+6,C⟩ (J Z y.Value)):=rfl;rw[ab] at a4 ag;generalize (((((((w2.setCell _ _).setCell _ _).setCell _ _).setCell _ _).setCell _ _).setCell _ _).setCell _ _)=w3 at a4 ag |-;clear ab aa;have a9:(x.fq.set t y).length=x.fq.length:=RP;have aB:gp<W.heap.size:=(blt h.box)
 have ao:gp≠gt:=fun e=>h.g3 (e ▸ a8)
 have ae:∀ b∈S',b∈S3∨W.heap.size<=b:=fun b hb=>by
  rcases ad b hb with h1 | h1
  ·exact .inl h1
  ·rcases a7 b h1 with h4 | h4
   ·exact .inr h4
   ·exact .inl (ac b h4)
 refine⟨S',⟨?_,h2.sp.fJ a4 (fun b hb hm=>h.jj b hb (by simp at hm;exact hm ▸ a8)),?_,fun b hb hm=>?_,h.g0,fun hm=>?_,a4.fy h2.fy (fun b hb=>by simp at hb;exact hb ▸ h.l3 gt a8),h.lg,h.l0,fun b hb=>?_,fun p hp=>?_⟩⟩
 ·rw[a9]
  exact(a4.block gp (blt h2.box) (by simpa using ao)).trans h2.box
 ·rw[a9]
  exact ag
 ·rcases ae b hm with h1 | h1
  ·exact h.jj b hb h1
  ·have:=h.sp.lt b hb;omega
 ·rcases ae gp hm with h1 | h1
  ·exact h.g3 h1
  ·omega
 ·rcases ae b hb with h1 | h1
  ·exact h.l3 b h1
  ·have:=h.fy.size;omega
 ·obtain⟨h1,h4,h5,h6⟩:=h2.kb p hp
  have h7:=(R9.1 (h.kb p hp).1).1;refine⟨(a4.block p.1 (blt h1) (fun hm=>h6 (by simp at hm;exact hm ▸ a8))).trans h1,h4,h5,fun hm=>?_⟩;rcases ae p.1 hm with h8 | h8
  ·exact h6 h8
  ·omega
end
theorem Er {a b:U} (hg:fu a b){g i:Nat}(hl:g<a.heap.size):Rx b ⟨g,i,C⟩=Rx a ⟨g,i,C⟩:=by
 obtain⟨os,d,rfl⟩:=hg;exact FV os d g i hl
theorem KL {α:Type} {T:Ty α} {w1:U} {cs:Q Value} {x:α} (h:fU T w1 W cs x)(hl:w.heap.size<=w1.heap.size):fU T w W cs x:=by
 obtain⟨S,h1,h2,h3⟩:=h;exact⟨S,h1,h2,fun b hb=>by have:=h3 b hb;omega⟩
theorem WS {g:Prop} (f:g:=by
  clear HP hG hE q0 q1 q2 q3 q4 q5 q6 hgl hgtp hfr HTU hkp hmod1 hmod2 hk0 ht hkn hlt
  have HS0:=fh hs
  have HMK:=fh hmk
  have hbx:w1.heap[gp]?=D (F #[G A0 x.fk.fo.length c0,G A1 x.fk.ft.length c1,G A2 x.fk.ii.length c2,G A3 x.fq.length c3,J Z (t:Int),J Z L0,J Z x.ws] 34 (0,0)):=hP1.box
  have hdr:fu w1 w1.drew:=(fu.refl w1).drew
  obtain⟨f0,f1,f2⟩:=ze hP1.sp.read
  obtain⟨gt,A4,c4,A5,c5,rfl,hgl,hgtp,hfr,⟨q0,q1,q2,q3,q4,q5,q6⟩,o3,o4,hput⟩:=hP1.WR hmt
  have HPUT:=fh hput
  clear hs hmk hput hP1
  obtain⟨p0,p1,p2,p3,p4,p5,p6,pf,pl⟩:=zK hbx
  clear hbx
  refine zX (fun w'=>Rb w' ⟨gp,0,C⟩=D (G A0 x.fk.fo.length c0)/\Rb w' ⟨gp,1,C⟩=D (G A1 x.fk.ft.length c1)/\Rb w' ⟨gp,2,C⟩=D (G A2 x.fk.ii.length c2)/\Rb w' ⟨gp,3,C⟩=D (G (D ⟨gt,0,C⟩) x.fq.length c3)/\Rb w' ⟨gt,t*7,C⟩=D (J Z m.Pc)/\Rb w' ⟨gt,t*7+1,C⟩=D (J Z m.Sp)/\Rb w' ⟨gt,t*7+2,C⟩=D (J Z m.Fp)/\Rb w' ⟨gt,t*7+3,C⟩=D (G A4 m.pm.length c4)/\Rb w' ⟨gt,t*7+4,C⟩=D (G A5 m.If.length c5)/\Rb w' ⟨gt,t*7+5,C⟩=D (J Z m.rc)/\Rb w' ⟨gt,t*7+6,C⟩=D (J Z m.Value)) 18 Fs (Rf (zc p0) (Rf (zc p1) (Rf (zc p2) (Rf (zc p3) (Rf (zc q0) (Rf (zc q1) (Rf (zc q2) (Rf (zc q3) (Rf (zc q4) (Rf (zc q5) (zc q6))))))))))) (fun hH=>?_)
  have f0:=Ty.up _ f0 hdr
  have f1:=Ty.up _ f1 hdr
  have f2:=Ty.up _ f2 hdr
  have o3:=Ty.up _ o3 hdr
  have o4:=Ty.up _ o4 hdr
  clear p0 p1 p2 p3 q0 q1 q2 q3 q4 q5 q6
  have hsz9:w1.heap.size<=w1.drew.heap.size:=hdr.size
  generalize w1.drew=wx at hdr hH f0 f1 f2 o3 o4 hsz9 |-
  obtain⟨p0,p1,p2,p3,q0,q1,q2,q3,q4,q5,q6⟩:=id hH
  have hfrx:∀ j,Rx wx ⟨gt,j,C⟩=I:=fun j=>(Er hdr hgl).trans (hfr j)
  have hgx:gt<wx.heap.size:=K9
  refine .tq 0 [18] hH ?_
  refine .tq 1 [18] hH ?_
  refine .tq 2 [18] hH ?_
  refine .tq 3 [18] hH ?_
  refine .tq 4 [18] hH ?_
  refine .tq 5 [18] hH ?_
  refine .tq 6 [18] hH ?_
  refine .tq 7 [18] hH ?_
  refine .tq 8 [18] hH ?_
  refine .tq 9 [18] hH ?_
  refine .tq 10 [18] hH ?_
  refine .tq 11 [18] hH ?_
  refine .tq 12 [18] hH ?_
  refine .tq 13 [18] hH ?_
  refine .tq 14 [18] hH ?_
  refine .tq 15 [18] hH ?_
  refine fA.one (i:=16) Fs rfl (fun K hK=>?_)
  go_simp
  go_at_call 80
  refine(zvu (s:=x.fk) (m:=m) (Ra:=Ra) f0 f1 f2 o3 o4 HIMG.out.1 HIMG.out.2.1 HIMG.out.2.2 HMK.out hN HS0.out).mono ?_
  rintro e w2 ⟨B0,d0,B1,d1,rfl,hg2,hk2,hor⟩
  have hor:=hor.imp (fun hF=>KL hF hsz9) id
  have p0:=pz hg2 p0
  have p1:=pz hg2 p1
  have p2:=pz hg2 p2
  have p3:=pz hg2 p3
  have q0:=pz hg2 q0
  have q1:=pz hg2 q1
  have q2:=pz hg2 q2
  have q3:=pz hg2 q3
  have q4:=pz hg2 q4
  have q5:=pz hg2 q5
  have q6:=pz hg2 q6
  have hH2:=(Rf p0 (Rf p1 (Rf p2 (Rf p3 (Rf q0 (Rf q1 (Rf q2 (Rf q3 (Rf q4 (Rf q5 q6))))))))))
  refine hK.out _ _ hH2 (fun hI=>?_)
  clear hK hH
  have hH:=hI
  try simp only[lay]
  obtain⟨S4,hP3⟩:=HPUT.out w2 (hdr.trans hg2) _ B0 d0 B1 d1 hor
  have hfr2:∀ j,Rx w2 ⟨gt,j,C⟩=I:=fun j=>(Er hg2 hgx).trans (hfrx j)
  have hg2l:gt<w2.heap.size:=by have:=hg2.size;omega
  clear hfrx hfr HPUT
  refine .tq 17 [18] hH ?_
  refine fA.last Fs rfl Fs (fun K hK=>?_)
  go_simp
  refine hK.out _ _ ?_
  clear hK hH hH2 hI p0 p1 p2 p3 q0 q1 q2 q3 q4 q5 q6
  try simp only[lay]
  generalize (((((((w2.setCell _ _).setCell _ _).setCell _ _).setCell _ _).setCell _ _).setCell _ _).setCell _ _)=w3 at hP3 |-
  have hbx:w3.heap[gp]?=D (F #[G A0 x.fk.fo.length c0,G A1 x.fk.ft.length c1,G A2 x.fk.ii.length c2,G (D ⟨gt,0,C⟩) (x.fq.set t (ji x.fk m)).length c3,J Z (t:Int),J Z L0,J Z x.ws] 34 (0,0)):=hP3.box
  clear p4 p5 p6 pf pl
  obtain⟨p0,p1,p2,p3,p4,p5,p6,pf,pl⟩:=zK hbx
  rw[RP] at p3
  clear hbx
  have hwl:SN (L0-1)=L0-1:=qC K9 K9
  go_upto_region 12 with(fail)
  have hP4:=hP3.num (i:=5) (v:=J Z (L0-1)) (t:=(t:Int)) (l:=L0-1) (fun _ _ _ _ _=>rfl)
  generalize w3.setCell _ _=w4 at hP4 |-
  have hbx:w4.heap[gp]?=D (F #[G A0 x.fk.fo.length c0,G A1 x.fk.ft.length c1,G A2 x.fk.ii.length c2,G (D ⟨gt,0,C⟩) (x.fq.set t (ji x.fk m)).length c3,J Z (t:Int),J Z (L0-1),J Z x.ws] 34 (0,0)):=hP4.box
  clear p0 p1 p2 p3 p4 p5 p6 pf pl
  obtain⟨p0,p1,p2,p3,p4,p5,p6,pf,pl⟩:=zK hbx
  rw[RP] at p3
  clear hbx
  by_cases hz:L0-1=0
  ·have hL1:L0=1:=K9
   go_upto_region 14 with(fail)
   have hP5:=hP4.num (i:=5) (v:=J Z x.ws) (t:=(t:Int)) (l:=x.ws) (fun _ _ _ _ _=>rfl)
   generalize w4.setCell _ _=w5 at hP5 |-
   have hbx:w5.heap[gp]?=D (F #[G A0 x.fk.fo.length c0,G A1 x.fk.ft.length c1,G A2 x.fk.ii.length c2,G (D ⟨gt,0,C⟩) (x.fq.set t (ji x.fk m)).length c3,J Z (t:Int),J Z x.ws,J Z x.ws] 34 (0,0)):=hP5.box
   clear p0 p1 p2 p3 p4 p5 p6 pf pl
   obtain⟨p0,p1,p2,p3,p4,p5,p6,pf,pl⟩:=zK hbx
   rw[RP] at p3
   clear hbx
   have hmt2:((t:Int)+1).tmod (x.fq.length:Int)=(((t+1) % x.fq.length:Nat):Int):=by rw[show (t:Int)+1=((t+1:Nat):Int) from K9];exact rfl
   have hmt3:((t:Int)+1) % (x.fq.length:Int)=(((t+1) % x.fq.length:Nat):Int):=by rw[show (t:Int)+1=((t+1:Nat):Int) from K9];exact rfl
   obtain⟨t2,ht2⟩:∃ t2,(t+1) % x.fq.length=t2:=⟨_,rfl⟩
   rw[ht2] at hmt2 hmt3
   go_upto_region 15 with(fail)
   have hP6:=hP5.num (i:=4) (v:=J Z (t2:Int)) (t:=(t2:Int)) (l:=x.ws) (fun _ _ _ _ _=>rfl)
   generalize w5.setCell _ _=w6 at hP6 |-
   go_wp2_with(fail)
   refine Rj (v:=J Z (t:Int)) (by simp[Rv,results39,go_sem]) rfl ⟨by rw[HRES.out],?_,S4,?_⟩
   ·rw[HRES.out]
    exact hv.xR hk2 htl
   ·rw[HRES.out,yZ hl0]
    simp only[Rs hz,ht2]
    exact hP6
  ·have hL1:¬ L0=1:=K9
   go_wp2_with(fail)
   refine Rj (v:=J Z (t:Int)) (by simp[Rv,results39,go_sem]) rfl ⟨by rw[HRES.out],?_,S4,?_⟩
   ·rw[HRES.out]
    exact hv.xR hk2 htl
   ·rw[HRES.out,yZ hl0]
    simp only[Ro hz]
    exact hP4):g:=f
theorem zxw (h:km B Y W gp x A0 c0 A1 c1 A2 c2 A3 c3 S0 S3)(hv:kL Ra x)(hN:Ra<=1099511620000) :
  RD prog 39 #[.pointer (D ⟨gp,0,C⟩)] W fun r W'=>r=.returned (J Z (mT x).2)/\kL (Ra+1) (mT x).1/\∃ S3',km B Y W' gp (mT x).1 A0 c0 A1 c1 A2 c2 A3 c3 S0 S3':=by
 have HIMG:=fh hv.wS;have an:=hv.n1;have ao:=hv.n3;have aq:=hv.t1;have ak:=hv.l1;have al:=hv.l2;have ap:=hv.s1;obtain⟨T,hT⟩:=RE hv.t0;have HTU:=fh hT;have ai:T<x.fq.length:=K9;obtain⟨p0,p1,p2,p3,p4,p5,p6,pf,pl⟩:=zK h.box;go_enter func39,ntmps39;go_wp2;go_loopw [4] (fun a wr=>∃ k:Nat,a=J Z k/\k<=x.fq.length/\Hid (fu W wr)/\Hid (mG x (x.fq.length-k) k=mT x)) (fun a _=>x.fq.length-(RS a).toNat)
 case atStart=>exact⟨0,rfl,Rl _,fh (fu.refl _),fh rfl⟩
 case round=>
  obtain⟨k,rfl,hkn,hG,hE⟩:=hrel;have HP:=fh (h.pW hG.out);clear p0 p1 p2 p3 p4 p5 p6 pf pl;obtain⟨p0,p1,p2,p3,p4,p5,p6,pf,pl⟩:=zK HP.out.box;by_cases hlt:k<x.fq.length
  ·obtain⟨t,ht⟩:∃ t,(T+k) % x.fq.length=t:=⟨_,rfl⟩
   have htl:t<x.fq.length:=by rw[<-ht];exact Va _ K9
   have hmod1:((T:Int)+(k:Int)).tmod (x.fq.length:Int)=(t:Int):=by rw[<-ht];rfl
   have hmod2:((T:Int)+(k:Int)) % (x.fq.length:Int)=(t:Int):=by rw[<-ht];rfl
   obtain⟨m,hmt⟩:∃ m,x.fq[t]?=D m:=⟨_,Rn htl⟩
   have hmk:=hv.ms m (Rt hmt);have a2:x.fq[(x.fR.toNat+k) % x.fq.length]?=D m:=by rw[hT,Ry,ht];exact hmt
   have a7:x.fq.length-k=(x.fq.length-(k+1))+1:=K9;obtain⟨gt,A4,c4,A5,c5,a1,hgl,hgtp,hfr,⟨q0,q1,q2,q3,q4,q5,q6⟩,_,_,_⟩:=HP.out.WR hmt;have aj:(k:Int)<(x.fq.length:Int):=K9;have ar:(t:Int)<(x.fq.length:Int):=K9;have am:¬ ((x.fq.length:Int)=0):=K9;rw[a1] at p3;by_cases hs:m.rc=0
   ·have a0:=hE.out
    rw[a7,Ak a2 hs,hT,Ry,ht] at a0;have HRES:=fh a0.symm;rw[<-a1] at p3;clear a0 a2 a7;by_cases hk0:0<k
    ·have a8:=a1
     rw[a1] at p3;have ac:=fh a1;clear a1 a8;have hkp:(0:Int)<(k:Int):=K9
     have ah:t=T+k∨t+x.fq.length=T+k:=by
      rw[<-ht];rcases UU (T+k) x.fq.length with h9 | h9
      ·exact .inl (U9 h9)
      ·rw[Nat.mod_eq_sub_mod h9,U9 K9]
       omega
     have af:¬ ((t:Int)=x.fR):=K9;clear ah;have hl0:(if decide (0<k)=M then x.ws else x.EQ)-1=x.ws-1:=by rw[Rs (by simpa using hk0)]
     go_upto_region 9 with(fail);have a6:=HP.out.num (i:=5) (v:=J Z x.ws) (t:=x.fR) (l:=x.ws) (fun _ _ _ _ _=>rfl);generalize wr.setCell _ _=wa at a6 |-;have hbx:wa.heap[gp]?=D (F #[G A0 x.fk.fo.length c0,G A1 x.fk.ft.length c1,G A2 x.fk.ii.length c2,G A3 x.fq.length c3,J Z x.fR,J Z x.ws,J Z x.ws] 34 (0,0)):=a6.box;clear p0 p1 p2 p3 p4 p5 p6 pf pl;obtain⟨p0,p1,p2,p3,p4,p5,p6,pf,pl⟩:=zK hbx;clear hbx;go_upto_region 10 with(fail);have hP1:=a6.num (i:=4) (v:=J Z (t:Int)) (t:=(t:Int)) (l:=x.ws) (fun _ _ _ _ _=>rfl);generalize wa.setCell _ _=w1 at hP1 |-;obtain⟨L0,a3⟩:∃ L0,x.ws=L0:=⟨_,rfl⟩
     have a9:1<=L0:=K9;have aa:L0<=1000:=K9;have hl0:(if decide (0<k)=M then x.ws else x.EQ)-1=L0-1:=by rw[hl0,a3]
     have hP1:km B Y w1 gp { x with fR:=(t:Int),EQ:=L0 } A0 c0 A1 c1 A2 c2 A3 c3 S0 S3:=by rw[<-a3];exact hP1
     clear a3 af a6 p0 p1 p2 p3 p4 p5 p6 pf pl;exact WS
    ·rw[a1] at p3
     have ac:=fh a1;clear a1;obtain rfl:k=0:=K9;rw[Sr] at ht;have hkp:True:=trivial;have ag:t=T:=by rw[<-ht,U9 K9]
     subst ag;have a4:(t:Int).tmod (x.fq.length:Int)=(t:Int):=Int.tmod_eq_of_lt K9 K9;have a5:(t:Int) % (x.fq.length:Int)=(t:Int):=Int.emod_eq_of_lt K9 K9;have hl0:(if decide (0<0)=M then x.ws else x.EQ)-1=x.EQ-1:=by rw[Ro II]
     go_upto_region 10 with(fail);have hP1:km B Y wr gp { x with fR:=(t:Int),EQ:=x.EQ } A0 c0 A1 c1 A2 c2 A3 c3 S0 S3:=by rw[<-hT];exact HP.out
     obtain⟨w1,ab⟩:∃ w1,wr=w1:=⟨_,rfl⟩
     rw[ab] at hP1 |-;clear ab;obtain⟨L0,a3⟩:∃ L0,x.EQ=L0:=⟨_,rfl⟩
     have a9:1<=L0:=K9;have aa:L0<=1000:=K9;rw[a3] at hP1;have hl0:(if decide (0<0)=M then x.ws else x.EQ)-1=L0-1:=by rw[hl0,a3]
     clear a3 hT a4 a5 p0 p1 p2 p3 p4 p5 p6 pf pl;exact WS
   ·have a0:=hE.out
    rw[a7,zw a2 hs] at a0;have ad:=fh a0;clear a0 a2 a7;go_wp2_with(fail);go_roundw;exact⟨k+1,II,K9,hG,ad⟩;exact gM
  ·have ae:¬ ((k:Int)<(x.fq.length:Int)):=K9
   have a0:=hE.out;rw[show x.fq.length-k=0 from K9] at a0;have HRES:=fh (show mT x=(x,-1) from a0.symm);clear a0;go_wp2_with(fail);exact Rj (v:=J Z (-1)) (by simp[Rv,results39,go_sem]) rfl ⟨by rw[HRES.out],by rw[HRES.out];exact hv.up,S3,by rw[HRES.out];exact HP.out⟩
def mx (k:Nat)(m m':fv):Prop:=m'.pm.length=m.pm.length/\m'.If.length<=m.If.length+k
theorem mx.refl (m:fv):mx 0 m m:=⟨rfl,Ru _⟩
theorem mx.trans {j k:Nat}{a b c:fv}(h1:mx j a b)(h2:mx k b c):mx (j+k) a c:=⟨h2.1.trans h1.1,by have:=h1.2;have:=h2.2;omega⟩
theorem tR (h:zP m v=D m'):mx 0 m m':=by
 unfold zP at h;split at h
 ·injection h with h
  subst h;exact⟨II,Ru _⟩
 ·cases h
theorem IC (h:ld m a v=D m'):mx 0 m m':=by
 unfold ld at h;split at h
 ·injection h with h
  subst h;exact⟨II,Ru _⟩
 ·cases h
theorem rC {p:fv × Int} (h:gX m=D p):mx 0 m p.1:=by
 have h1:=Iv (m1:=p.1) (v:=p.2) h;rw[h1];exact⟨rfl,Ru _⟩
theorem Cy:∀(n:Nat){m m':fv},ju n m=D m'->mx 0 m m'
 | 0,m,m',h=>by injection h with h;subst h;exact mx.refl _
 | n+1,m,m',h=>by
  obtain⟨p,hp,h2⟩:=RB.1 h;exact(rC hp).trans (Cy n h2)
theorem CT:∀(n:Nat){m m':fv},oA n m=D m'->mx 0 m m'
 | 0,m,m',h=>by injection h with h;subst h;exact mx.refl _
 | n+1,m,m',h=>by
  obtain⟨p,hp,h2⟩:=RB.1 h;exact(tR hp).trans (CT n h2)
theorem vn {g:Prop} (f:g:=by
  have k3:=rC h3
  have k4:=Cy _ h4
  have k5:=tR h5
  exact up ⟨k5.1.trans (k4.1.trans (k3.1.trans (k2.1.trans k1.1))),RG k5.2 (RG k4.2 (RG k3.2 (RG k2.2 k1.2)))⟩):g:=f
theorem LC {es:Q Int} {c:Int} (h:zA es m c a=D m'):mx 1 m m':=by
 have up:∀{x y:fv},mx 0 x y->mx 1 x y:=fun h=>⟨h.1,by have:=h.2;omega⟩;unfold zA at h;by_cases q0:c=0
 ·rw[Rs q0] at h
  exact up (tR h)
 rw[Ro q0] at h;by_cases q1:c=1
 ·rw[Rs q1] at h
  obtain⟨v,_,h2⟩:=RB.1 h;exact up (tR h2)
 rw[Ro q1] at h;by_cases q3:c=3
 ·rw[Rs q3] at h
  obtain⟨v,_,h2⟩:=RB.1 h;exact up (tR h2)
 rw[Ro q3] at h;by_cases q2:c=2
 ·rw[Rs q2] at h
  obtain⟨p,h1,h2⟩:=RB.1 h;exact up ((rC h1).trans (IC h2))
 rw[Ro q2] at h;by_cases q4:c=4
 ·rw[Rs q4] at h
  obtain⟨p,h1,h2⟩:=RB.1 h;exact up ((rC h1).trans (IC h2))
 rw[Ro q4] at h;by_cases q10:c=10
 ·rw[Rs q10] at h
  injection h with h
  subst h;exact up (mx.refl _)
 rw[Ro q10] at h;by_cases q11:c=11
 ·rw[Rs q11] at h
  obtain⟨p,h1,h2⟩:=SU.1 h;have h3:=rC h1;subst h2;split
  ·exact up h3
  ·exact up h3
 rw[Ro q11] at h;by_cases q12:c=12
 ·rw[Rs q12] at h
  obtain⟨p,h1,h2⟩:=RB.1 h;obtain⟨e,_,h4⟩:=SU.1 h2;subst h4;have h5:=tR h1;exact up ⟨h5.1,h5.2⟩
 rw[Ro q12] at h;by_cases q13:c=13
 ·rw[Rs q13] at h
  obtain⟨p,h1,h2⟩:=RB.1 h;have h3:=CT _ h2;have h4:=tR h1;exact up ⟨h3.1.trans h4.1,RG h3.2 h4.2⟩
 rw[Ro q13] at h;by_cases q15:c=15
 ·rw[Rs q15] at h
  exact up (CT _ h)
 rw[Ro q15] at h;by_cases q14:c=14
 ·rw[Rs q14] at h
  obtain⟨p,h1,h⟩:=RB.1 h;obtain⟨q,h2,h⟩:=RB.1 h;obtain⟨r,h3,h⟩:=RB.1 h;obtain⟨d,h4,h5⟩:=RB.1 h;have k1:=rC h1;have k2:=rC h2;exact vn
 rw[Ro q14] at h;by_cases q16:c=16
 ·rw[Rs q16] at h
  obtain⟨p,h1,h⟩:=RB.1 h;obtain⟨q,h2,h⟩:=RB.1 h;obtain⟨r,h3,h⟩:=RB.1 h;obtain⟨d,h4,h5⟩:=RB.1 h;have k1:=rC h1;have k2:=Cy _ h2;exact vn
 rw[Ro q16] at h;by_cases q17:c=17
 ·rw[Rs q17] at h
  obtain⟨p,h1,h2⟩:=SU.1 h;have h3:=rC h1;subst h2;exact⟨h3.1,by have:=h3.2;simp;omega⟩
 rw[Ro q17] at h;obtain⟨p,h1,h⟩:=RB.1 h;obtain⟨q,h2,h3⟩:=RB.1 h;exact up (((rC h1).trans (rC h2)).trans (tR h3))
theorem P6 (h:lf m=D m'):mx 0 m m':=by
 unfold lf at h;split at h
 ·obtain⟨v,_,h2⟩:=SU.1 h
  subst h2;exact⟨rfl,Ru _⟩
 ·injection h with h
  subst h;exact mx.refl _
theorem N7 (s:gk)(m:fv):mx 1 m (ji s m):=by
 have hs:mx 1 m { m with rc:=2 }:=⟨rfl,TR _ _⟩
 rw[Ft];split
 ·cases hp:(zA s.ii { m with Pc:=m.Pc+((lD s m.Pc).n:Int) } (lD s m.Pc).code (lD s m.Pc).arg).bind lf with
  | none=>exact hs
  | some m'=>
   obtain⟨q,h1,h2⟩:=RB.1 hp;have k1:=LC h1;have k2:=P6 h2;exact⟨k2.1.trans k1.1,by have:=k1.2;have:=k2.2;show m'.If.length<=m.If.length+1;have h5:({ m with Pc:=m.Pc+((lD s m.Pc).n:Int) }:fv).If.length=m.If.length:=rfl;omega⟩
 ·exact hs
theorem PH (s:gk)(m:fv):jV (ji s m)<=jV m+1:=by
 have h:=N7 s m;have h1:=h.1;have h2:=h.2;unfold jV;omega
theorem IV {α:Type}(f:α->Nat):∀(xs:Q α)(t:Nat)(x y:α),xs[t]?=D x->f y<=f x+1->((xs.set t y).map f).sum<=(xs.map f).sum+1
 | [],t,x,y,h,_=>by simp at h
 | a::r,0,x,y,h,hf=>by
  simp at h;subst h;simp only[List.set_cons_zero,Sz,Tu];omega
 | a::r,t+1,x,y,h,hf=>by
  have:=IV f r t x y (by simpa using h) hf;simp only[List.set_cons_succ,Sz,Tu];omega
theorem GU (x:fO):∀(f k:Nat),zN (mG x f k).1<=zN x+1/\(mG x f k).1.fk=x.fk
 | 0,k=>⟨TR _ _,rfl⟩
 | f+1,k=>by
  cases hm:x.fq[(x.fR.toNat+k) % x.fq.length]? with
  | none=>
   have h:mG x (f+1) k=(x,-1):=by rw[mG,hm]
   rw[h];exact⟨TR _ _,rfl⟩
  | some m=>
   by_cases hs:m.rc=0
   ·rw[Ak hm hs]
    refine⟨?_,rfl⟩;have h1:=IV jV x.fq _ m (ji x.fk m) hm (PH x.fk m);show jE x.fk+lI jV (x.fq.set _ (ji x.fk m))<=jE x.fk+lI jV x.fq+1;unfold lI;rw[RP];omega
   ·rw[zw hm hs]
    exact GU x f (k+1)
theorem Ia (x:fO):zN (mT x).1<=zN x+1:=(GU x _ _).1
theorem PG {α:Type} (f:α->Nat){xs:Q α}{x:α}(h:x∈xs):f x<=lI f xs:=by
 obtain⟨j,hj⟩:=TG h;exact tS f hj
theorem kL.mk' (h:jq x=M)(hsz:zN x<=Ra)(hm:∀ m∈x.fq,fE m.Pc/\fE m.Sp/\fE m.Fp/\fE m.rc/\fE m.Value):kL Ra x:=by
 unfold jq at h;simp only[Rq,Td] at h;obtain⟨⟨⟨⟨⟨h1,h2⟩,h3⟩,h4⟩,h5⟩,h6⟩:=h;have h2:=zu.1 h2;have h3:=zu.1 h3;have h4:=zu.1 h4;have h5:=zu.1 h5;refine⟨h1,by omega,by omega,h3.1,by omega,h5.1,h5.2,h4.2,fun m hmm=>?_⟩;have h7:=h6 m hmm;unfold zU at h7;simp only[Rq,RC] at h7;obtain⟨p0,p1,p2,p3,p4⟩:=hm m hmm;have h8:=PG jV hmm;refine⟨h7.1.1,?_,p0,p1,p2,p3,p4⟩;unfold zN at hsz;unfold jV at h8;unfold jV at hsz;omega
theorem PB (w:U)(ca cb:Array Value)(ta tb:R5):((w.alloc (F ca ta)).alloc (F cb tb)).heap[w.heap.size]?=D (F ca ta (0,0))/\((w.alloc (F ca ta)).alloc (F cb tb)).heap[w.heap.size+1]?=D (F cb tb (0,0)):=by
 refine⟨zj (Re w _) gF,?_⟩;have h:=Re (w.alloc (F ca ta)) (F cb tb);rw[Rz] at h;exact h
theorem Fx {xs:Q fv} {B:Nat} {v:Value} (h:(zG.sl 41).R w B [v] xs):∀ m∈xs,fE m.Pc/\fE m.Sp/\fE m.Fp/\fE m.rc/\fE m.Value:=by
 intro m hm;obtain⟨k,hk⟩:=TG hm;obtain⟨A,c,rfl,_⟩:=kJ h;obtain⟨g,a0,y,ec,_,_,hy,hR,_⟩:=nU h (k:=k) (Rd.1 hk).1;have:y=m:=by rw[hk] at hy;injection hy with hy;exact hy.symm
 subst this;obtain⟨_,_,_,_,_,p0,p1,p2,_,_,p5,p6⟩:=CI hR;exact⟨p0,p1,p2,p5,p6⟩
theorem km.make {W1 W2:U} (hF:fU nC W1 W2 [G A0 x.fk.fo.length c0,G A1 x.fk.ft.length c1,G A2 x.fk.ii.length c2,G A3 x.fq.length c3,J Z x.fR,J Z x.EQ,J Z x.ws] x)(hg:fu W1 W2)(hB:∀ p∈B,W1.heap[p.1]?=D p.2) :
  ∃ S0 S3,km B W1 (W2.alloc (F #[G A0 x.fk.fo.length c0,G A1 x.fk.ft.length c1,G A2 x.fk.ii.length c2,G A3 x.fq.length c3,J Z x.fR,J Z x.EQ,J Z x.ws] 34)) W2.heap.size x A0 c0 A1 c1 A2 c2 A3 c3 S0 S3:=by
 obtain⟨S9,hO,hN,hL⟩:=hF;have a2:=Ty.iY _ hO;obtain⟨a4,a8,S0,a5,a9,S1,a6,aa,S2,a7,ab,S3,a1,rfl,h0,h1,h2,h3,_,_,_⟩:=MA hO;simp only[TL,SY,U1,Ud] at a1;obtain⟨⟨rfl,rfl⟩,⟨rfl,rfl⟩,⟨rfl,rfl⟩,⟨rfl,rfl⟩⟩:=a1;rw[RM] at hN;obtain⟨n1,n2,n3⟩:=hN;have a0:fu W2 (W2.alloc (F #[G A0 x.fk.fo.length c0,G A1 x.fk.ft.length c1,G A2 x.fk.ii.length c2,G A3 x.fq.length c3,J Z x.fR,J Z x.EQ,J Z x.ws] 34)):=(fu.refl _).alloc _;have a3:=hg.size;refine⟨S0++S1++S2,S3,Re W2 _,Has.fy ⟨xY h0 h1 h2,n1⟩ a0,Has.fy ⟨h3,n2⟩ a0,fun b hb hm=>n3 b hb b hm rfl,fun hm=>?_,fun hm=>?_,hg.trans a0,a3,fun b hb=>hL b (RH _ hb),fun b hb=>hL b (RK _ hb),fun p hp=>?_⟩
 ·have:=a2 _ (RH _ hm);omega
 ·have:=a2 _ (RK _ hm);omega
 ·have h1:=hB p hp
  have hl:=(blt h1)
  refine⟨zj (zj h1 hg) a0,K9,fun hm=>?_,fun hm=>?_⟩
  ·have:=hL _ (RH _ hm);omega
  ·have:=hL _ (RK _ hm);omega
theorem km.whole (h:km B Y W gp x A0 c0 A1 c1 A2 c2 A3 c3 S0 S3)(ht:fE x.fR)(hl:fE x.EQ)(hs:fE x.ws) :
  Has nC W [G A0 x.fk.fo.length c0,G A1 x.fk.ft.length c1,G A2 x.fk.ii.length c2,G A3 x.fq.length c3,J Z x.fR,J Z x.EQ,J Z x.ws] x (S0++S3)/\(∀ b∈S0++S3,Y.heap.size<=b)/\∀ p∈B,p.1∉S0++S3:=by
 refine⟨⟨yY h.sp.1 h.th.1 ht hl hs,RM.2 ⟨h.sp.2,h.th.2,fun a ha b hb he=>h.jj a ha (he ▸ hb)⟩⟩,fun b hb=>?_,fun p hp hm=>?_⟩
 ·rcases Rr.1 hb with h1 | h1
  ·exact h.l0 b h1
  ·exact h.l3 b h1
 ·obtain⟨_,_,h3,h4⟩:=h.kb p hp
  rcases Rr.1 hm with h1 | h1
  ·exact h3 h1
  ·exact h4 h1
end Go.Proofs.YthgbglbaemelhaaGreat
