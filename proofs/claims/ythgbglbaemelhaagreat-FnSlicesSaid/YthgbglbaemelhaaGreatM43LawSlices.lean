/-
  PART.
-/
import Derived.Test.YthgbglbaemelhaaGreatM34LawSlices
import Derived.Test.YthgbglbaemelhaaGreatM39LawSlices
import Derived.Test.YthgbglbaemelhaaGreatM42LawSlices
set_option linter.unusedVariables false
set_option linter.unusedSimpArgs false
set_option maxRecDepth 100000
set_option maxHeartbeats 8000000
namespace Go.Proofs.YthgbglbaemelhaaGreat
open Value renaming slice->G,int->J
open IntKind renaming i64->C
open Option renaming none->D,some->Z
open Obj renaming cells->F
open Bool renaming false->I,true->M
open Go renaming World->U,results->Rd,Calls->Rh,Addr->Ri,yielded->Su
open World renaming cell?->QL,frozen?->Rb
open _root_.Int renaming toNat_natCast->Ra
open RowKit renaming intOf->Ry,wrap64->Sf
open _root_.Nat renaming add_zero->RK
open List renaming sum_cons->SV
open Region renaming wanted->Rx,ready->RL,noSelect->Tn,Mode->Ts,free->Ui
open Tryz
open Go.RowKit
variable {A0 A1 A2 A3:X Ri}{B:Q (Nat × Obj)}{QK c0 c1 c2 c3 f gp k t:Nat}{S0 S3:Q Nat}{W Y w:U}{a v:Int}{m m':fy}{moved:Bool}{x:fK}
def jK (x:fK)(t:Nat)(m:fy)(moved:Bool):fK:=
 let left:=(if moved=M then x.Slice else x.Left)-1
 { x with fk:=x.fk.set t (kW x.fo m),fO:=if left=0 then (((t+1) % x.fk.length:Nat):Int) else (t:Int),Left:=if left=0 then x.Slice else left }
def lX (x:fK):Nat->Nat->fK × Int
 | 0,_=>(x,-1)
 | f+1,k=>match x.fk[(x.fO.toNat+k) % x.fk.length]? with
  | some m=>if m.State=0 then (jK x ((x.fO.toNat+k) % x.fk.length) m (decide (0<k)),(((x.fO.toNat+k) % x.fk.length:Nat):Int)) else lX x f (k+1)
  | none=>(x,-1)
def jz (x:fK):fK × Int:=lX x x.fk.length 0
structure km (QK:Nat)(x:fK):Prop where
 sp:zU x.fo=M
 n1:1<=x.fk.length
 n3:x.fk.length<=3
 t0:0<=x.fO
 t1:x.fO<x.fk.length
 l1:1<=x.Left
 l2:x.Left<=x.Slice
 s1:x.Slice<=1000
 ms:∀ m∈x.fk,nB QK m
theorem km.wk (h:km QK x):x.fo.fq.length=x.fo.fu.length/\(∀ i∈x.fo.fq,i.Code.size<=1099511627776)/\∀ b∈x.fo.fu,fT b 1 1000000=M:=by
 have h1:=h.sp;simp only[zU,Q4,Rg,SG] at h1;refine⟨by omega,fun i hi=>?_,h1.1.1.2⟩;have h2:=h1.1.1.1.2 i hi;simp only[jr,Q4,Rg] at h2;omega
theorem nB.up (h:nB QK m):nB (QK+1) m:=⟨h.len,by have:=h.out;omega,h.pc,h.sp,h.fp,h.st,h.va⟩
theorem km.up {QK:Nat}{x:fK}(h:km QK x):km (QK+1) x:=⟨h.sp,h.n1,h.n3,h.t0,h.t1,h.l1,h.l2,h.s1,fun m hm=>(h.ms m hm).up⟩
theorem wH {left:Int} (hl:(if moved=M then x.Slice else x.Left)-1=left):jK x t m moved = { x with fk:=x.fk.set t (kW x.fo m),fO:=if left=0 then (((t+1) % x.fk.length:Nat):Int) else (t:Int),Left:=if left=0 then x.Slice else left }:=by
 subst hl;rfl
theorem km.xx (h:km QK x)(hm:nB (QK+1) (kW x.fo m))(ht:t<x.fk.length):km (QK+1) (jK x t m moved):=by
 have hn:(x.fk.set t (kW x.fo m)).length=x.fk.length:=Rn;have h1:=h.l1;have h2:=h.l2;have h3:=h.n1;have h5:=h.n3;have h4:(t+1) % x.fk.length<x.fk.length:=UA _ (by omega);obtain⟨left,hl⟩:∃ l:Int,(if moved=M then x.Slice else x.Left)-1=l:=⟨_,rfl⟩
 have a0:0<=left/\left<x.Slice:=by
  cases moved with
  | true=>rw[Q5 rfl] at hl;omega
  | false=>rw[QZ (by simp)] at hl;omega
 rw[wH hl]
 have hT:0<=(if left=0 then (((t+1) % x.fk.length:Nat):Int) else (t:Int))/\(if left=0 then (((t+1) % x.fk.length:Nat):Int) else (t:Int))<(x.fk.length:Int):=by
  split <;> omega
 have hL:1<=(if left=0 then x.Slice else left)/\(if left=0 then x.Slice else left)<=x.Slice:=by
  split <;> omega
 refine⟨h.sp,by rw[hn];exact h3,by rw[hn];exact h5,hT.1,by rw[hn];exact hT.2,hL.1,hL.2,h.s1,fun y hy=>?_⟩;rcases Tz hy with hy | rfl
 ·exact(h.ms y hy).up
 ·exact hm
theorem yP (hm:x.fk[(x.fO.toNat+k) % x.fk.length]?=Z m)(hs:¬ m.State=0):lX x (f+1) k=lX x f (k+1):=by
 rw[lX,hm];exact QZ hs
theorem xH (hm:x.fk[(x.fO.toNat+k) % x.fk.length]?=Z m)(hs:m.State=0):lX x (f+1) k=(jK x ((x.fO.toNat+k) % x.fk.length) m (decide (0<k)),(((x.fO.toNat+k) % x.fk.length:Nat):Int)):=by
 rw[lX,hm];exact Q5 hs
structure j7 (B:Q (Nat × Obj))(Y W:U)(gp:Nat)(x:fK)(A0:X Ri)(c0:Nat)(A1:X Ri)(c1:Nat)(A2:X Ri)(c2:Nat)(A3:X Ri)(c3:Nat)(S0 S3:Q Nat):Prop where
 box:W.heap[gp]?=Z (F #[G A0 x.fo.fq.length c0,G A1 x.fo.fu.length c1,G A2 x.fo.Entries.length c2,G A3 x.fk.length c3,J C x.fO,J C x.Left,J C x.Slice] 34 (0,0))
 sp:Has kV W [G A0 x.fo.fq.length c0,G A1 x.fo.fu.length c1,G A2 x.fo.Entries.length c2] x.fo S0
 th:Has (jX.sl 41) W [G A3 x.fk.length c3] x.fk S3
 jS:∀ b∈S0,b∉S3
 g0:gp∉S0
 g3:gp∉S3
 fx:ft Y W
 lg:Y.heap.size<=gp
 l0:∀ b∈S0,Y.heap.size<=b
 l3:∀ b∈S3,Y.heap.size<=b
 kb:∀ p∈B,W.heap[p.1]?=Z p.2/\p.1≠gp/\p.1∉S0/\p.1∉S3
section
variable {B:Q (Nat × Obj)} {Y W W':U} {gp:Nat} {x:fK} {A0 A1 A2 A3:X Ri} {c0 c1 c2 c3:Nat} {S0 S3:Q Nat}
theorem j7.nI (h:j7 B Y W gp x A0 c0 A1 c1 A2 c2 A3 c3 S0 S3)(hg:ft W W'):j7 B Y W' gp x A0 c0 A1 c1 A2 c2 A3 c3 S0 S3:=
 ⟨zj h.box hg,h.sp.fx hg,h.th.fx hg,h.jS,h.g0,h.g3,h.fx.trans hg,h.lg,h.l0,h.l3,fun p hp=>⟨zj (h.kb p hp).1 hg,(h.kb p hp).2⟩⟩
theorem j7.kept (h:j7 B Y W gp x A0 c0 A1 c1 A2 c2 A3 c3 S0 S3){g:Nat}{o:Obj}(hp:(g,o)∈B):W.heap[g]?=Z o:=(h.kb (g,o) hp).1
theorem j7.num {t l:Int} (h:j7 B Y W gp x A0 c0 A1 c1 A2 c2 A3 c3 S0 S3){i:Nat}{v:Value}
  (hrow:∀ a b c d e,(#[a,b,c,d,J C x.fO,J C x.Left,e]:Array Value).setIfInBounds i v=#[a,b,c,d,J C t,J C l,e]) :
  j7 B Y (W.setCell ⟨gp,i,D⟩ v) gp { x with fO:=t,Left:=l } A0 c0 A1 c1 A2 c2 A3 c3 S0 S3:=by
 have a0:fw [gp] W (W.setCell ⟨gp,i,D⟩ v):=(fw.refl _ _).setCell (p:=⟨gp,i,D⟩) (by simp) _;refine⟨jb (i:=i) (v:=v) h.box (hrow _ _ _ _ _),h.sp.fJ a0 (fun b hb hm=>h.g0 (by simp at hm;exact hm ▸ hb)),h.th.fJ a0 (fun b hb hm=>h.g3 (by simp at hm;exact hm ▸ hb)),h.jS,h.g0,h.g3,a0.fx h.fx (fun b hb=>by simp at hb;exact hb ▸ h.lg),h.lg,h.l0,h.l3,fun p hp=>?_⟩;obtain⟨h1,h2,h3,h4⟩:=h.kb p hp;exact⟨(a0.block p.1 (blt h1) (by simpa using h2)).trans h1,h2,h3,h4⟩
theorem j7.thread (h:j7 B Y W gp x A0 c0 A1 c1 A2 c2 A3 c3 S0 S3){t:Nat}{m:fy}(hm:x.fk[t]?=Z m) :
  ∃ gt A4 c4 A5 c5,A3=Z ⟨gt,0,D⟩/\gt<W.heap.size/\gt≠gp/\(∀ j,Rb W ⟨gt,j,D⟩=I)/\
   (QL W ⟨gt,t*7,D⟩=Z (J C m.Pc)/\QL W ⟨gt,t*7+1,D⟩=Z (J C m.Sp)/\QL W ⟨gt,t*7+2,D⟩=Z (J C m.Fp)/\QL W ⟨gt,t*7+3,D⟩=Z (G A4 m.Stack.length c4)/\QL W ⟨gt,t*7+4,D⟩=Z (G A5 m.Out.length c5)/\QL W ⟨gt,t*7+5,D⟩=Z (J C m.State)/\QL W ⟨gt,t*7+6,D⟩=Z (J C m.Value))/\
   (zr.sl 3).R W W.heap.size [G A4 m.Stack.length c4] m.Stack/\(zr.sl 3).R W W.heap.size [G A5 m.Out.length c5] m.Out/\
   ∀ w2,ft W w2->∀(y:fy) B0 d0 B1 d1,(fU jX W w2 [J C y.Pc,J C y.Sp,J C y.Fp,G B0 y.Stack.length d0,G B1 y.Out.length d1,J C y.State,J C y.Value] y∨(y = { m with State:=2 }/\B0=A4/\d0=c4/\B1=A5/\d1=c5))->
    ∃ S3',j7 B Y (((((((w2.setCell ⟨gt,t*7,D⟩ (J C y.Pc)).setCell ⟨gt,t*7+1,D⟩ (J C y.Sp)).setCell ⟨gt,t*7+2,D⟩ (J C y.Fp)).setCell ⟨gt,t*7+3,D⟩ (G B0 y.Stack.length d0)).setCell ⟨gt,t*7+4,D⟩ (G B1 y.Out.length d1)).setCell ⟨gt,t*7+5,D⟩ (J C y.State)).setCell ⟨gt,t*7+6,D⟩ (J C y.Value)) gp { x with fk:=x.fk.set t y } A0 c0 A1 c1 A2 c2 A3 c3 S0 S3':=by
 obtain⟨gt,ec,Sc,rfl,a8,am,_,_,ai,ak,a6,_⟩:=C5 h.th hm;obtain⟨A4,c4,Sa,A5,c5,Sb,rfl,rfl,p0,p1,p2,o3,o4,p5,p6⟩:=BZ ai.1;have hc:∀ j u,[J C m.Pc,J C m.Sp,J C m.Fp,G A4 m.Stack.length c4,G A5 m.Out.length c5,J C m.State,J C m.Value][j]?=Z u->QL W ⟨gt,t*7+j,D⟩=Z u:=a6;refine⟨gt,A4,c4,A5,c5,rfl,am,fun e=>h.g3 (e ▸ a8),ak,⟨hc 0 _ rfl,hc 1 _ rfl,hc 2 _ rfl,hc 3 _ rfl,hc 4 _ rfl,hc 5 _ rfl,hc 6 _ rfl⟩,Ty.read _ o3,Ty.read _ o4,fun w2 hg2 y B0 d0 B1 d1 hy=>?_⟩;have h2:=h.nI hg2;obtain⟨aA,az,ah,hA,al,an,_,ac,a5,_,a0,aa⟩:=C5 h2.th hm;injection hA with hA
 injection hA with hA
 subst hA
 obtain⟨Sy,aj,a7⟩:∃ Sy,Has jX w2 [J C y.Pc,J C y.Sp,J C y.Fp,G B0 y.Stack.length d0,G B1 y.Out.length d1,J C y.State,J C y.Value] y Sy/\∀ b∈Sy,W.heap.size<=b∨b∈ah:=by
  rcases hy with hy | ⟨rfl,rfl,rfl,rfl,rfl⟩
  ·obtain⟨S,h1,h2⟩:=fU.has hy
   exact⟨S,h1,fun b hb=>.inl (h2 b hb)⟩
  ·obtain⟨A6,c6,ax,A7,c7,ay,rfl,rfl,ar,au,av,ap,aq,aC,aw⟩:=BZ a5.1
   have e3:=(a0 3 _ rfl).symm.trans (pe hg2 (hc 3 _ rfl));have e4:=(a0 4 _ rfl).symm.trans (pe hg2 (hc 4 _ rfl));injection e3 with e3
   injection e3 with a1 a2 a3
   injection e4 with e4
   injection e4 with b1 b2 b3
   subst a1 a3 b1 b3;exact⟨_,⟨Bw (x:={ m with State:=2 }) ar au av ap aq ⟨by show (-9223372036854775808:Int)<=2;decide,by show (2:Int)<=9223372036854775807;decide⟩ aw,a5.2⟩,fun b hb=>.inr hb⟩
 have af:=h.th.lt
 obtain⟨a4,S',ag,ad⟩:=aa [J C y.Pc,J C y.Sp,J C y.Fp,G B0 y.Stack.length d0,G B1 y.Out.length d1,J C y.State,J C y.Value] y Sy aj (fun b hb=>by
  rcases a7 b hb with h1 | h1
  ·exact .inl (fun hm=>by have:=af b hm;omega)
  ·exact .inr h1)
 have ab:setRow w2 gt (t*jX.size) 0 [J C y.Pc,J C y.Sp,J C y.Fp,G B0 y.Stack.length d0,G B1 y.Out.length d1,J C y.State,J C y.Value]=(((((((w2.setCell ⟨gt,t*7,D⟩ (J C y.Pc)).setCell ⟨gt,t*7+1,D⟩ (J C y.Sp)).setCell ⟨gt,t*7+2,D⟩ (J C y.Fp)).setCell ⟨gt,t*7+3,D⟩ (G B0 y.Stack.length d0)).setCell ⟨gt,t*7+4,D⟩ (G B1 y.Out.length d1)).setCell ⟨gt,t*7+5,D⟩ (J C y.State)).setCell ⟨gt,t*7+6,D⟩ (J C y.Value)):=rfl;rw[ab] at a4 ag;generalize (((((((w2.setCell _ _).setCell _ _).setCell _ _).setCell _ _).setCell _ _).setCell _ _).setCell _ _)=w3 at a4 ag |-;clear ab aa;have a9:(x.fk.set t y).length=x.fk.length:=Rn;have aB:gp<W.heap.size:=(blt h.box)
 have ao:gp≠gt:=fun e=>h.g3 (e ▸ a8)
 have ae:∀ b∈S',b∈S3∨W.heap.size<=b:=fun b hb=>by
  rcases ad b hb with h1 | h1
  ·exact .inl h1
  ·rcases a7 b h1 with h4 | h4
   ·exact .inr h4
   ·exact .inl (ac b h4)
 refine⟨S',⟨?_,h2.sp.fJ a4 (fun b hb hm=>h.jS b hb (by simp at hm;exact hm ▸ a8)),?_,fun b hb hm=>?_,h.g0,fun hm=>?_,a4.fx h2.fx (fun b hb=>by simp at hb;exact hb ▸ h.l3 gt a8),h.lg,h.l0,fun b hb=>?_,fun p hp=>?_⟩⟩
 ·rw[a9]
  exact(a4.block gp (blt h2.box) (by simpa using ao)).trans h2.box
 ·rw[a9]
  exact ag
 ·rcases ae b hm with h1 | h1
  ·exact h.jS b hb h1
  ·have:=h.sp.lt b hb;omega
 ·rcases ae gp hm with h1 | h1
  ·exact h.g3 h1
  ·omega
 ·rcases ae b hb with h1 | h1
  ·exact h.l3 b h1
  ·have:=h.fx.size;omega
 ·obtain⟨h1,h4,h5,h6⟩:=h2.kb p hp
  have h7:=(R5.1 (h.kb p hp).1).1;refine⟨(a4.block p.1 (blt h1) (fun hm=>h6 (by simp at hm;exact hm ▸ a8))).trans h1,h4,h5,fun hm=>?_⟩;rcases ae p.1 hm with h8 | h8
  ·exact h6 h8
  ·omega
end
theorem Ec {a b:U} (hg:ft a b){g i:Nat}(hl:g<a.heap.size):Rb b ⟨g,i,D⟩=Rb a ⟨g,i,D⟩:=by
 obtain⟨os,d,rfl⟩:=hg;exact Fe os d g i hl
theorem Kt {α:Type} {T:Ty α} {w1:U} {cs:Q Value} {x:α} (h:fU T w1 W cs x)(hl:w.heap.size<=w1.heap.size):fU T w W cs x:=by
 obtain⟨S,h1,h2,h3⟩:=h;exact⟨S,h1,h2,fun b hb=>by have:=h3 b hb;omega⟩
theorem yv {g:Prop} (f:g:=by
  clear HP hG hE q0 q1 q2 q3 q4 q5 q6 hgl hgtp hfr HTU hkp hmod1 hmod2 hk0 ht hkn hlt
  have HS0:=fh hs
  have HMK:=fh hmk
  have hbx:w1.heap[gp]?=Z (F #[G A0 x.fo.fq.length c0,G A1 x.fo.fu.length c1,G A2 x.fo.Entries.length c2,G A3 x.fk.length c3,J C (t:Int),J C L0,J C x.Slice] 34 (0,0)):=hP1.box
  have hdr:ft w1 w1.drew:=(ft.refl w1).drew
  obtain⟨f0,f1,f2⟩:=xF hP1.sp.read
  obtain⟨gt,A4,c4,A5,c5,rfl,hgl,hgtp,hfr,⟨q0,q1,q2,q3,q4,q5,q6⟩,o3,o4,hput⟩:=hP1.thread hmt
  have HPUT:=fh hput
  clear hs hmk hput hP1
  obtain⟨p0,p1,p2,p3,p4,p5,p6,pf,pl⟩:=zS hbx
  clear hbx
  refine jT (fun w'=>QL w' ⟨gp,0,D⟩=Z (G A0 x.fo.fq.length c0)/\QL w' ⟨gp,1,D⟩=Z (G A1 x.fo.fu.length c1)/\QL w' ⟨gp,2,D⟩=Z (G A2 x.fo.Entries.length c2)/\QL w' ⟨gp,3,D⟩=Z (G (Z ⟨gt,0,D⟩) x.fk.length c3)/\QL w' ⟨gt,t*7,D⟩=Z (J C m.Pc)/\QL w' ⟨gt,t*7+1,D⟩=Z (J C m.Sp)/\QL w' ⟨gt,t*7+2,D⟩=Z (J C m.Fp)/\QL w' ⟨gt,t*7+3,D⟩=Z (G A4 m.Stack.length c4)/\QL w' ⟨gt,t*7+4,D⟩=Z (G A5 m.Out.length c5)/\QL w' ⟨gt,t*7+5,D⟩=Z (J C m.State)/\QL w' ⟨gt,t*7+6,D⟩=Z (J C m.Value)) 18 (by kernel_rfl) (QQ (zc p0) (QQ (zc p1) (QQ (zc p2) (QQ (zc p3) (QQ (zc q0) (QQ (zc q1) (QQ (zc q2) (QQ (zc q3) (QQ (zc q4) (QQ (zc q5) (zc q6))))))))))) (fun hH=>?_)
  have f0:=Ty.up _ f0 hdr
  have f1:=Ty.up _ f1 hdr
  have f2:=Ty.up _ f2 hdr
  have o3:=Ty.up _ o3 hdr
  have o4:=Ty.up _ o4 hdr
  clear p0 p1 p2 p3 q0 q1 q2 q3 q4 q5 q6
  have hsz9:w1.heap.size<=w1.drew.heap.size:=hdr.size
  generalize w1.drew=wx at hdr hH f0 f1 f2 o3 o4 hsz9 |-
  obtain⟨p0,p1,p2,p3,q0,q1,q2,q3,q4,q5,q6⟩:=id hH
  have hfrx:∀ j,Rb wx ⟨gt,j,D⟩=I:=fun j=>(Ec hdr hgl).trans (hfr j)
  have hgx:gt<wx.heap.size:=by omega
  refine .tq 0 [18] hH ?_
  refine .tq 1 [18] hH ?_
  refine .tq 2 [18] hH ?_
  refine .tq 3 [18] hH ?_
  refine .tq 4 [18] hH ?_
  refine .tq 5 [18] hH ?_
  refine .tq 6 [18] hH ?_
  refine .tq 7 [18] hH ?_
  refine .tq 8 [18] hH ?_
  refine .tq 9 [18] hH ?_
  refine .tq 10 [18] hH ?_
  refine .tq 11 [18] hH ?_
  refine .tq 12 [18] hH ?_
  refine .tq 13 [18] hH ?_
  refine .tq 14 [18] hH ?_
  refine .tq 15 [18] hH ?_
  refine fA.one (i:=16) (by kernel_rfl) rfl (fun K hK=>?_)
  go_simp
  go_at_call 80
  refine(zuP (s:=x.fo) (m:=m) (QK:=QK) f0 f1 f2 o3 o4 HIMG.out.1 HIMG.out.2.1 HIMG.out.2.2 HMK.out hN HS0.out).mono ?_
  rintro e w2 ⟨B0,d0,B1,d1,rfl,hg2,hk2,hor⟩
  have hor:=hor.imp (fun hF=>Kt hF hsz9) id
  have p0:=pe hg2 p0
  have p1:=pe hg2 p1
  have p2:=pe hg2 p2
  have p3:=pe hg2 p3
  have q0:=pe hg2 q0
  have q1:=pe hg2 q1
  have q2:=pe hg2 q2
  have q3:=pe hg2 q3
  have q4:=pe hg2 q4
  have q5:=pe hg2 q5
  have q6:=pe hg2 q6
  have hH2:=(QQ p0 (QQ p1 (QQ p2 (QQ p3 (QQ q0 (QQ q1 (QQ q2 (QQ q3 (QQ q4 (QQ q5 q6))))))))))
  refine hK.out _ _ hH2 (fun hI=>?_)
  clear hK hH
  have hH:=hI
  try simp only[lay]
  obtain⟨S4,hP3⟩:=HPUT.out w2 (hdr.trans hg2) _ B0 d0 B1 d1 hor
  have hfr2:∀ j,Rb w2 ⟨gt,j,D⟩=I:=fun j=>(Ec hg2 hgx).trans (hfrx j)
  have hg2l:gt<w2.heap.size:=by have:=hg2.size;omega
  clear hfrx hfr HPUT
  refine .tq 17 [18] hH ?_
  refine fA.last (by kernel_rfl) rfl (by kernel_rfl) (fun K hK=>?_)
  go_simp
  refine hK.out _ _ ?_
  clear hK hH hH2 hI p0 p1 p2 p3 q0 q1 q2 q3 q4 q5 q6
  try simp only[lay]
  generalize (((((((w2.setCell _ _).setCell _ _).setCell _ _).setCell _ _).setCell _ _).setCell _ _).setCell _ _)=w3 at hP3 |-
  have hbx:w3.heap[gp]?=Z (F #[G A0 x.fo.fq.length c0,G A1 x.fo.fu.length c1,G A2 x.fo.Entries.length c2,G (Z ⟨gt,0,D⟩) (x.fk.set t (kW x.fo m)).length c3,J C (t:Int),J C L0,J C x.Slice] 34 (0,0)):=hP3.box
  clear p4 p5 p6 pf pl
  obtain⟨p0,p1,p2,p3,p4,p5,p6,pf,pl⟩:=zS hbx
  rw[Rn] at p3
  clear hbx
  have hwl:Sf (L0-1)=L0-1:=rS (by omega) (by omega)
  go_upto_region 12 with(fail)
  have hP4:=hP3.num (i:=5) (v:=J C (L0-1)) (t:=(t:Int)) (l:=L0-1) (fun _ _ _ _ _=>rfl)
  generalize w3.setCell _ _=w4 at hP4 |-
  have hbx:w4.heap[gp]?=Z (F #[G A0 x.fo.fq.length c0,G A1 x.fo.fu.length c1,G A2 x.fo.Entries.length c2,G (Z ⟨gt,0,D⟩) (x.fk.set t (kW x.fo m)).length c3,J C (t:Int),J C (L0-1),J C x.Slice] 34 (0,0)):=hP4.box
  clear p0 p1 p2 p3 p4 p5 p6 pf pl
  obtain⟨p0,p1,p2,p3,p4,p5,p6,pf,pl⟩:=zS hbx
  rw[Rn] at p3
  clear hbx
  by_cases hz:L0-1=0
  ·have hL1:L0=1:=by omega
   go_upto_region 14 with(fail)
   have hP5:=hP4.num (i:=5) (v:=J C x.Slice) (t:=(t:Int)) (l:=x.Slice) (fun _ _ _ _ _=>rfl)
   generalize w4.setCell _ _=w5 at hP5 |-
   have hbx:w5.heap[gp]?=Z (F #[G A0 x.fo.fq.length c0,G A1 x.fo.fu.length c1,G A2 x.fo.Entries.length c2,G (Z ⟨gt,0,D⟩) (x.fk.set t (kW x.fo m)).length c3,J C (t:Int),J C x.Slice,J C x.Slice] 34 (0,0)):=hP5.box
   clear p0 p1 p2 p3 p4 p5 p6 pf pl
   obtain⟨p0,p1,p2,p3,p4,p5,p6,pf,pl⟩:=zS hbx
   rw[Rn] at p3
   clear hbx
   have hmt2:((t:Int)+1).tmod (x.fk.length:Int)=(((t+1) % x.fk.length:Nat):Int):=by rw[show (t:Int)+1=((t+1:Nat):Int) from by omega];exact rfl
   have hmt3:((t:Int)+1) % (x.fk.length:Int)=(((t+1) % x.fk.length:Nat):Int):=by rw[show (t:Int)+1=((t+1:Nat):Int) from by omega];exact rfl
   obtain⟨t2,ht2⟩:∃ t2,(t+1) % x.fk.length=t2:=⟨_,rfl⟩
   rw[ht2] at hmt2 hmt3
   go_upto_region 15 with(fail)
   have hP6:=hP5.num (i:=4) (v:=J C (t2:Int)) (t:=(t2:Int)) (l:=x.Slice) (fun _ _ _ _ _=>rfl)
   generalize w5.setCell _ _=w6 at hP6 |-
   go_wp2_with(fail)
   refine QU (v:=J C (t:Int)) (by simp[Rd,results39,go_sem]) rfl ⟨by rw[HRES.out],?_,S4,?_⟩
   ·rw[HRES.out]
    exact hv.xx hk2 htl
   ·rw[HRES.out,wH hl0]
    simp only[Q5 hz,ht2]
    exact hP6
  ·have hL1:¬ L0=1:=by omega
   go_wp2_with(fail)
   refine QU (v:=J C (t:Int)) (by simp[Rd,results39,go_sem]) rfl ⟨by rw[HRES.out],?_,S4,?_⟩
   ·rw[HRES.out]
    exact hv.xx hk2 htl
   ·rw[HRES.out,wH hl0]
    simp only[QZ hz]
    exact hP4):g:=f
theorem zuZ (h:j7 B Y W gp x A0 c0 A1 c1 A2 c2 A3 c3 S0 S3)(hv:km QK x)(hN:QK<=1099511620000) :
  Rh prog 39 #[.pointer (Z ⟨gp,0,D⟩)] W fun r W'=>r=.returned (J C (jz x).2)/\km (QK+1) (jz x).1/\∃ S3',j7 B Y W' gp (jz x).1 A0 c0 A1 c1 A2 c2 A3 c3 S0 S3':=by
 have HIMG:=fh hv.wk;have an:=hv.n1;have ao:=hv.n3;have aq:=hv.t1;have ak:=hv.l1;have al:=hv.l2;have ap:=hv.s1;obtain⟨T,hT⟩:=Rl hv.t0;have HTU:=fh hT;have ai:T<x.fk.length:=by omega
 obtain⟨p0,p1,p2,p3,p4,p5,p6,pf,pl⟩:=zS h.box;go_enter func39,ntmps39;go_wp2;go_loopw [4] (fun a wr=>∃ k:Nat,a=J C k/\k<=x.fk.length/\Hid (ft W wr)/\Hid (lX x (x.fk.length-k) k=jz x)) (fun a _=>x.fk.length-(Ry a).toNat)
 case atStart=>exact⟨0,rfl,QX _,fh (ft.refl _),fh rfl⟩
 case round=>
  obtain⟨k,rfl,hkn,hG,hE⟩:=hrel;have HP:=fh (h.nI hG.out);clear p0 p1 p2 p3 p4 p5 p6 pf pl;obtain⟨p0,p1,p2,p3,p4,p5,p6,pf,pl⟩:=zS HP.out.box;by_cases hlt:k<x.fk.length
  ·obtain⟨t,ht⟩:∃ t,(T+k) % x.fk.length=t:=⟨_,rfl⟩
   have htl:t<x.fk.length:=by rw[<-ht];exact UA _ (by omega)
   have hmod1:((T:Int)+(k:Int)).tmod (x.fk.length:Int)=(t:Int):=by rw[<-ht];rfl
   have hmod2:((T:Int)+(k:Int)) % (x.fk.length:Int)=(t:Int):=by rw[<-ht];rfl
   obtain⟨m,hmt⟩:∃ m,x.fk[t]?=Z m:=⟨_,QW htl⟩
   have hmk:=hv.ms m (Q9 hmt);have a2:x.fk[(x.fO.toNat+k) % x.fk.length]?=Z m:=by rw[hT,Ra,ht];exact hmt
   have a7:x.fk.length-k=(x.fk.length-(k+1))+1:=by omega
   obtain⟨gt,A4,c4,A5,c5,a1,hgl,hgtp,hfr,⟨q0,q1,q2,q3,q4,q5,q6⟩,_,_,_⟩:=HP.out.thread hmt;have aj:(k:Int)<(x.fk.length:Int):=by omega
   have ar:(t:Int)<(x.fk.length:Int):=by omega
   have am:¬ ((x.fk.length:Int)=0):=by omega
   rw[a1] at p3;by_cases hs:m.State=0
   ·have a0:=hE.out
    rw[a7,xH a2 hs,hT,Ra,ht] at a0;have HRES:=fh a0.symm;rw[<-a1] at p3;clear a0 a2 a7;by_cases hk0:0<k
    ·have a8:=a1
     rw[a1] at p3;have ac:=fh a1;clear a1 a8;have hkp:(0:Int)<(k:Int):=by omega
     have ah:t=T+k∨t+x.fk.length=T+k:=by
      rw[<-ht];rcases Uy (T+k) x.fk.length with h9 | h9
      ·exact .inl (TI h9)
      ·rw[Nat.mod_eq_sub_mod h9,TI (by omega)]
       omega
     have af:¬ ((t:Int)=x.fO):=by omega
     clear ah;have hl0:(if decide (0<k)=M then x.Slice else x.Left)-1=x.Slice-1:=by rw[Q5 (by simpa using hk0)]
     go_upto_region 9 with(fail);have a6:=HP.out.num (i:=5) (v:=J C x.Slice) (t:=x.fO) (l:=x.Slice) (fun _ _ _ _ _=>rfl);generalize wr.setCell _ _=wa at a6 |-;have hbx:wa.heap[gp]?=Z (F #[G A0 x.fo.fq.length c0,G A1 x.fo.fu.length c1,G A2 x.fo.Entries.length c2,G A3 x.fk.length c3,J C x.fO,J C x.Slice,J C x.Slice] 34 (0,0)):=a6.box;clear p0 p1 p2 p3 p4 p5 p6 pf pl;obtain⟨p0,p1,p2,p3,p4,p5,p6,pf,pl⟩:=zS hbx;clear hbx;go_upto_region 10 with(fail);have hP1:=a6.num (i:=4) (v:=J C (t:Int)) (t:=(t:Int)) (l:=x.Slice) (fun _ _ _ _ _=>rfl);generalize wa.setCell _ _=w1 at hP1 |-;obtain⟨L0,a3⟩:∃ L0,x.Slice=L0:=⟨_,rfl⟩
     have a9:1<=L0:=by omega
     have aa:L0<=1000:=by omega
     have hl0:(if decide (0<k)=M then x.Slice else x.Left)-1=L0-1:=by rw[hl0,a3]
     have hP1:j7 B Y w1 gp { x with fO:=(t:Int),Left:=L0 } A0 c0 A1 c1 A2 c2 A3 c3 S0 S3:=by rw[<-a3];exact hP1
     clear a3 af a6 p0 p1 p2 p3 p4 p5 p6 pf pl;exact yv
    ·rw[a1] at p3
     have ac:=fh a1;clear a1;obtain rfl:k=0:=by omega
     rw[RK] at ht;have hkp:True:=trivial;have ag:t=T:=by rw[<-ht,TI (by omega)]
     subst ag;have a4:(t:Int).tmod (x.fk.length:Int)=(t:Int):=Int.tmod_eq_of_lt (by omega) (by omega);have a5:(t:Int) % (x.fk.length:Int)=(t:Int):=Int.emod_eq_of_lt (by omega) (by omega);have hl0:(if decide (0<0)=M then x.Slice else x.Left)-1=x.Left-1:=by rw[QZ (by simp)]
     go_upto_region 10 with(fail);have hP1:j7 B Y wr gp { x with fO:=(t:Int),Left:=x.Left } A0 c0 A1 c1 A2 c2 A3 c3 S0 S3:=by rw[<-hT];exact HP.out
     obtain⟨w1,ab⟩:∃ w1,wr=w1:=⟨_,rfl⟩
     rw[ab] at hP1 |-;clear ab;obtain⟨L0,a3⟩:∃ L0,x.Left=L0:=⟨_,rfl⟩
     have a9:1<=L0:=by omega
     have aa:L0<=1000:=by omega
     rw[a3] at hP1;have hl0:(if decide (0<0)=M then x.Slice else x.Left)-1=L0-1:=by rw[hl0,a3]
     clear a3 hT a4 a5 p0 p1 p2 p3 p4 p5 p6 pf pl;exact yv
   ·have a0:=hE.out
    rw[a7,yP a2 hs] at a0;have ad:=fh a0;clear a0 a2 a7;go_wp2_with(fail);go_roundw;exact⟨k+1,by simp,by omega,hG,ad⟩;exact gH
  ·have ae:¬ ((k:Int)<(x.fk.length:Int)):=by omega
   have a0:=hE.out;rw[show x.fk.length-k=0 from by omega] at a0;have HRES:=fh (show jz x=(x,-1) from a0.symm);clear a0;go_wp2_with(fail);exact QU (v:=J C (-1)) (by simp[Rd,results39,go_sem]) rfl ⟨by rw[HRES.out],by rw[HRES.out];exact hv.up,S3,by rw[HRES.out];exact HP.out⟩
def mi (k:Nat)(m m':fy):Prop:=m'.Stack.length=m.Stack.length/\m'.Out.length<=m.Out.length+k
theorem mi.refl (m:fy):mi 0 m m:=⟨rfl,Q8 _⟩
theorem mi.trans {j k:Nat}{a b c:fy}(h1:mi j a b)(h2:mi k b c):mi (j+k) a c:=⟨h2.1.trans h1.1,by have:=h1.2;have:=h2.2;omega⟩
theorem ti (h:iD m v=Z m'):mi 0 m m':=by
 unfold iD at h;split at h
 ·injection h with h
  subst h;exact⟨by simp,Q8 _⟩
 ·cases h
theorem Ip (h:nu m a v=Z m'):mi 0 m m':=by
 unfold nu at h;split at h
 ·injection h with h
  subst h;exact⟨by simp,Q8 _⟩
 ·cases h
theorem re {p:fy × Int} (h:iq m=Z p):mi 0 m p.1:=by
 have h1:=Ic (m1:=p.1) (v:=p.2) h;rw[h1];exact⟨rfl,Q8 _⟩
theorem Cs:∀(n:Nat){m m':fy},jQ n m=Z m'->mi 0 m m'
 | 0,m,m',h=>by injection h with h;subst h;exact mi.refl _
 | n+1,m,m',h=>by
  obtain⟨p,hp,h2⟩:=Re.1 h;exact(re hp).trans (Cs n h2)
theorem Cp:∀(n:Nat){m m':fy},ri n m=Z m'->mi 0 m m'
 | 0,m,m',h=>by injection h with h;subst h;exact mi.refl _
 | n+1,m,m',h=>by
  obtain⟨p,hp,h2⟩:=Re.1 h;exact(ti hp).trans (Cp n h2)
theorem uF {g:Prop} (f:g:=by
  have k3:=re h3
  have k4:=Cs _ h4
  have k5:=ti h5
  exact up ⟨k5.1.trans (k4.1.trans (k3.1.trans (k2.1.trans k1.1))),Rj k5.2 (Rj k4.2 (Rj k3.2 (Rj k2.2 k1.2)))⟩):g:=f
theorem Kk {es:Q Int} {c:Int} (h:zO es m c a=Z m'):mi 1 m m':=by
 have up:∀{x y:fy},mi 0 x y->mi 1 x y:=fun h=>⟨h.1,by have:=h.2;omega⟩;unfold zO at h;by_cases q0:c=0
 ·rw[Q5 q0] at h
  exact up (ti h)
 rw[QZ q0] at h;by_cases q1:c=1
 ·rw[Q5 q1] at h
  obtain⟨v,_,h2⟩:=Re.1 h;exact up (ti h2)
 rw[QZ q1] at h;by_cases q3:c=3
 ·rw[Q5 q3] at h
  obtain⟨v,_,h2⟩:=Re.1 h;exact up (ti h2)
 rw[QZ q3] at h;by_cases q2:c=2
 ·rw[Q5 q2] at h
  obtain⟨p,h1,h2⟩:=Re.1 h;exact up ((re h1).trans (Ip h2))
 rw[QZ q2] at h;by_cases q4:c=4
 ·rw[Q5 q4] at h
  obtain⟨p,h1,h2⟩:=Re.1 h;exact up ((re h1).trans (Ip h2))
 rw[QZ q4] at h;by_cases q10:c=10
 ·rw[Q5 q10] at h
  injection h with h
  subst h;exact up (mi.refl _)
 rw[QZ q10] at h;by_cases q11:c=11
 ·rw[Q5 q11] at h
  obtain⟨p,h1,h2⟩:=R8.1 h;have h3:=re h1;subst h2;split
  ·exact up h3
  ·exact up h3
 rw[QZ q11] at h;by_cases q12:c=12
 ·rw[Q5 q12] at h
  obtain⟨p,h1,h2⟩:=Re.1 h;obtain⟨e,_,h4⟩:=R8.1 h2;subst h4;have h5:=ti h1;exact up ⟨h5.1,h5.2⟩
 rw[QZ q12] at h;by_cases q13:c=13
 ·rw[Q5 q13] at h
  obtain⟨p,h1,h2⟩:=Re.1 h;have h3:=Cp _ h2;have h4:=ti h1;exact up ⟨h3.1.trans h4.1,Rj h3.2 h4.2⟩
 rw[QZ q13] at h;by_cases q15:c=15
 ·rw[Q5 q15] at h
  exact up (Cp _ h)
 rw[QZ q15] at h;by_cases q14:c=14
 ·rw[Q5 q14] at h
  obtain⟨p,h1,h⟩:=Re.1 h;obtain⟨q,h2,h⟩:=Re.1 h;obtain⟨r,h3,h⟩:=Re.1 h;obtain⟨d,h4,h5⟩:=Re.1 h;have k1:=re h1;have k2:=re h2;exact uF
 rw[QZ q14] at h;by_cases q16:c=16
 ·rw[Q5 q16] at h
  obtain⟨p,h1,h⟩:=Re.1 h;obtain⟨q,h2,h⟩:=Re.1 h;obtain⟨r,h3,h⟩:=Re.1 h;obtain⟨d,h4,h5⟩:=Re.1 h;have k1:=re h1;have k2:=Cs _ h2;exact uF
 rw[QZ q16] at h;by_cases q17:c=17
 ·rw[Q5 q17] at h
  obtain⟨p,h1,h2⟩:=R8.1 h;have h3:=re h1;subst h2;exact⟨h3.1,by have:=h3.2;simp;omega⟩
 rw[QZ q17] at h;obtain⟨p,h1,h⟩:=Re.1 h;obtain⟨q,h2,h3⟩:=Re.1 h;exact up (((re h1).trans (re h2)).trans (ti h3))
theorem Pb (h:ny m=Z m'):mi 0 m m':=by
 unfold ny at h;split at h
 ·obtain⟨v,_,h2⟩:=R8.1 h
  subst h2;exact⟨rfl,Q8 _⟩
 ·injection h with h
  subst h;exact mi.refl _
theorem OJ (s:gv)(m:fy):mi 1 m (kW s m):=by
 have hs:mi 1 m { m with State:=2 }:=⟨rfl,Tu _ _⟩
 rw[K7];split
 ·cases hp:(zO s.Entries { m with Pc:=m.Pc+((sR s m.Pc).n:Int) } (sR s m.Pc).code (sR s m.Pc).arg).bind ny with
  | none=>exact hs
  | some m'=>
   obtain⟨q,h1,h2⟩:=Re.1 hp;have k1:=Kk h1;have k2:=Pb h2;exact⟨k2.1.trans k1.1,by have:=k1.2;have:=k2.2;show m'.Out.length<=m.Out.length+1;have h5:({ m with Pc:=m.Pc+((sR s m.Pc).n:Int) }:fy).Out.length=m.Out.length:=rfl;omega⟩
 ·exact hs
theorem OU (s:gv)(m:fy):lC (kW s m)<=lC m+1:=by
 have h:=OJ s m;have h1:=h.1;have h2:=h.2;unfold lC;omega
theorem Hq {α:Type}(f:α->Nat):∀(xs:Q α)(t:Nat)(x y:α),xs[t]?=Z x->f y<=f x+1->((xs.set t y).map f).sum<=(xs.map f).sum+1
 | [],t,x,y,h,_=>by simp at h
 | a::r,0,x,y,h,hf=>by
  simp at h;subst h;simp only[List.set_cons_zero,RS,SV];omega
 | a::r,t+1,x,y,h,hf=>by
  have:=Hq f r t x y (by simpa using h) hf;simp only[List.set_cons_succ,RS,SV];omega
theorem CF (x:fK):∀(f k:Nat),zI (lX x f k).1<=zI x+1/\(lX x f k).1.fo=x.fo
 | 0,k=>⟨Tu _ _,rfl⟩
 | f+1,k=>by
  cases hm:x.fk[(x.fO.toNat+k) % x.fk.length]? with
  | none=>
   have h:lX x (f+1) k=(x,-1):=by rw[lX,hm]
   rw[h];exact⟨Tu _ _,rfl⟩
  | some m=>
   by_cases hs:m.State=0
   ·rw[xH hm hs]
    refine⟨?_,rfl⟩;have h1:=Hq lC x.fk _ m (kW x.fo m) hm (OU x.fo m);show jP x.fo+lH lC (x.fk.set _ (kW x.fo m))<=jP x.fo+lH lC x.fk+1;unfold lH;rw[Rn];omega
   ·rw[yP hm hs]
    exact CF x f (k+1)
theorem CX (x:fK):zI (jz x).1<=zI x+1:=(CF x _ _).1
theorem Lc (x:fK):(jz x).1.fo=x.fo:=(CF x _ _).2
def vV (x:fK):fK × Int:=if jd x=M then jz x else (x,-1)
theorem OT {α:Type} (f:α->Nat){xs:Q α}{x:α}(h:x∈xs):f x<=lH f xs:=by
 obtain⟨j,hj⟩:=Ti h;exact vM f hj
theorem km.mk' (h:jd x=M)(hsz:zI x<=QK)(hm:∀ m∈x.fk,fD m.Pc/\fD m.Sp/\fD m.Fp/\fD m.State/\fD m.Value):km QK x:=by
 unfold jd at h;simp only[Q4,SG] at h;obtain⟨⟨⟨⟨⟨h1,h2⟩,h3⟩,h4⟩,h5⟩,h6⟩:=h;have h2:=zu.1 h2;have h3:=zu.1 h3;have h4:=zu.1 h4;have h5:=zu.1 h5;refine⟨h1,by omega,by omega,h3.1,by omega,h5.1,h5.2,h4.2,fun m hmm=>?_⟩;have h7:=h6 m hmm;unfold zM at h7;simp only[Q4,Rg] at h7;obtain⟨p0,p1,p2,p3,p4⟩:=hm m hmm;have h8:=OT lC hmm;refine⟨h7.1.1,?_,p0,p1,p2,p3,p4⟩;unfold zI at hsz;unfold lC at h8;unfold lC at hsz;omega
def Nz (p:fK × Int)(w:U)(e:Ending)(w':U):Prop:=∃ A0 c0 A1 c1 A2 c2 A3 c3,e=.returned (.tuple #[.agg #[G A0 p.1.fo.fq.length c0,G A1 p.1.fo.fu.length c1,G A2 p.1.fo.Entries.length c2,G A3 p.1.fk.length c3,J C p.1.fO,J C p.1.Left,J C p.1.Slice],J C p.2])/\fU mS w w' [G A0 p.1.fo.fq.length c0,G A1 p.1.fo.fu.length c1,G A2 p.1.fo.Entries.length c2,G A3 p.1.fk.length c3,J C p.1.fO,J C p.1.Left,J C p.1.Slice] p.1/\ft w w'
theorem Iw (w:U)(ca cb:Array Value)(ta tb:TypeId):((w.alloc (F ca ta)).alloc (F cb tb)).heap[w.heap.size]?=Z (F ca ta (0,0))/\((w.alloc (F ca ta)).alloc (F cb tb)).heap[w.heap.size+1]?=Z (F cb tb (0,0)):=by
 refine⟨zj (QO w _) gF,?_⟩;have h:=QO (w.alloc (F ca ta)) (F cb tb);rw[Rf] at h;exact h
theorem Ef {xs:Q fy} {B:Nat} {v:Value} (h:(jX.sl 41).R w B [v] xs):∀ m∈xs,fD m.Pc/\fD m.Sp/\fD m.Fp/\fD m.State/\fD m.Value:=by
 intro m hm;obtain⟨k,hk⟩:=Ti hm;obtain⟨A,c,rfl,_⟩:=lu h;obtain⟨g,a0,y,ec,_,_,hy,hR,_⟩:=nP h (k:=k) (QM.1 hk).1;have:y=m:=by rw[hk] at hy;injection hy with hy;exact hy.symm
 subst this;obtain⟨_,_,_,_,_,p0,p1,p2,_,_,p5,p6⟩:=Fv hR;exact⟨p0,p1,p2,p5,p6⟩
theorem j7.make {W1 W2:U} (hF:fU mS W1 W2 [G A0 x.fo.fq.length c0,G A1 x.fo.fu.length c1,G A2 x.fo.Entries.length c2,G A3 x.fk.length c3,J C x.fO,J C x.Left,J C x.Slice] x)(hg:ft W1 W2)(hB:∀ p∈B,W1.heap[p.1]?=Z p.2) :
  ∃ S0 S3,j7 B W1 (W2.alloc (F #[G A0 x.fo.fq.length c0,G A1 x.fo.fu.length c1,G A2 x.fo.Entries.length c2,G A3 x.fk.length c3,J C x.fO,J C x.Left,J C x.Slice] 34)) W2.heap.size x A0 c0 A1 c1 A2 c2 A3 c3 S0 S3:=by
 obtain⟨S9,hO,hN,hL⟩:=hF;have a2:=Ty.ja _ hO;obtain⟨a4,a8,S0,a5,a9,S1,a6,aa,S2,a7,ab,S3,a1,rfl,h0,h1,h2,h3,_,_,_⟩:=Mj hO;simp only[TB,St,UL,TO] at a1;obtain⟨⟨rfl,rfl⟩,⟨rfl,rfl⟩,⟨rfl,rfl⟩,⟨rfl,rfl⟩⟩:=a1;rw[Rs] at hN;obtain⟨n1,n2,n3⟩:=hN;have a0:ft W2 (W2.alloc (F #[G A0 x.fo.fq.length c0,G A1 x.fo.fu.length c1,G A2 x.fo.Entries.length c2,G A3 x.fk.length c3,J C x.fO,J C x.Left,J C x.Slice] 34)):=(ft.refl _).alloc _;have a3:=hg.size;refine⟨S0++S1++S2,S3,QO W2 _,Has.fx ⟨xM h0 h1 h2,n1⟩ a0,Has.fx ⟨h3,n2⟩ a0,fun b hb hm=>n3 b hb b hm rfl,fun hm=>?_,fun hm=>?_,hg.trans a0,a3,fun b hb=>hL b (Rm _ hb),fun b hb=>hL b (Rr _ hb),fun p hp=>?_⟩
 ·have:=a2 _ (Rm _ hm);omega
 ·have:=a2 _ (Rr _ hm);omega
 ·have h1:=hB p hp
  have hl:=(blt h1)
  refine⟨zj (zj h1 hg) a0,by omega,fun hm=>?_,fun hm=>?_⟩
  ·have:=hL _ (Rm _ hm);omega
  ·have:=hL _ (Rr _ hm);omega
theorem j7.whole (h:j7 B Y W gp x A0 c0 A1 c1 A2 c2 A3 c3 S0 S3)(ht:fD x.fO)(hl:fD x.Left)(hs:fD x.Slice) :
  Has mS W [G A0 x.fo.fq.length c0,G A1 x.fo.fu.length c1,G A2 x.fo.Entries.length c2,G A3 x.fk.length c3,J C x.fO,J C x.Left,J C x.Slice] x (S0++S3)/\(∀ b∈S0++S3,Y.heap.size<=b)/\∀ p∈B,p.1∉S0++S3:=by
 refine⟨⟨yF h.sp.1 h.th.1 ht hl hs,Rs.2 ⟨h.sp.2,h.th.2,fun a ha b hb he=>h.jS a ha (he ▸ hb)⟩⟩,fun b hb=>?_,fun p hp hm=>?_⟩
 ·rcases Q7.1 hb with h1 | h1
  ·exact h.l0 b h1
  ·exact h.l3 b h1
 ·obtain⟨_,_,h3,h4⟩:=h.kb p hp
  rcases Q7.1 hm with h1 | h1
  ·exact h3 h1
  ·exact h4 h1
theorem zv0 (h0:(iL.sl 103).R w w.heap.size [G A0 x.fo.fq.length c0] x.fo.fq)(h1:(zr.sl 3).R w w.heap.size [G A1 x.fo.fu.length c1] x.fo.fu)
  (h2:(zr.sl 3).R w w.heap.size [G A2 x.fo.Entries.length c2] x.fo.Entries) (h3:(jX.sl 41).R w w.heap.size [G A3 x.fk.length c3] x.fk) (ht:fD x.fO) (hle:fD x.Left) (hsl:fD x.Slice) (hs:zI x<=1099511600000) :
  Rh prog 24 #[.agg #[G A0 x.fo.fq.length c0,G A1 x.fo.fu.length c1,G A2 x.fo.Entries.length c2,G A3 x.fk.length c3,J C x.fO,J C x.Left,J C x.Slice]] w (Nz (vV x) w):=by
 have a9:ft w ((w.alloc (F #[G A0 x.fo.fq.length c0,G A1 x.fo.fu.length c1,G A2 x.fo.Entries.length c2,G A3 x.fk.length c3,J C x.fO,J C x.Left,J C x.Slice] 34)).alloc (F #[G D 0 0,G D 0 0,G D 0 0,G D 0 0,J C 0,J C 0,J C 0] 34)):=gG;obtain⟨ae,ah⟩:=Iw w #[G A0 x.fo.fq.length c0,G A1 x.fo.fu.length c1,G A2 x.fo.Entries.length c2,G A3 x.fk.length c3,J C x.fO,J C x.Left,J C x.Slice] #[G D 0 0,G D 0 0,G D 0 0,G D 0 0,J C 0,J C 0,J C 0] 34 34;have k0:=Ty.up _ h0 a9;have k1:=Ty.up _ h1 a9;have k2:=Ty.up _ h2 a9;have k3:=Ty.up _ h3 a9;have an:zI x<=1099511627776:=by omega
 have ay:=Ef h3;obtain⟨g,hg⟩:∃ g,w.heap.size=g:=⟨_,rfl⟩
 obtain⟨q,hq⟩:∃ q,jd x=q:=⟨_,rfl⟩
 have HB:=fh hq;have aB:=fh ay;have ar:=fh hs;clear ay hs;go_enter func24,ntmps24;go_upto_region 1 with(fail);rw[hg] at ae ah;generalize ((w.alloc _).alloc _)=W1 at a9 ae ah k0 k1 k2 k3 |-;have aM:=a9.size;clear h0 h1 h2 h3;obtain⟨a0,a1,a2,a3,a4,a5,a6,af,al⟩:=zS ae;go_upto_region 2 with(go_at_call 37;(with_reducible refine(zdb (x:=x) k0 k1 k2 k3 ht hle hsl an).mono ?_);rintro e w2 ⟨B0,d0,B1,d1,B2,d2,B3,d3,rfl,au,ap,e2,rfl⟩)
 obtain⟨S0,S3,hP⟩:=j7.make (B:=[(g,F #[G A0 x.fo.fq.length c0,G A1 x.fo.fu.length c1,G A2 x.fo.Entries.length c2,G A3 x.fk.length c3,J C x.fO,J C x.Left,J C x.Slice] 34 (0,0)),(g+1,F #[G D 0 0,G D 0 0,G D 0 0,G D 0 0,J C 0,J C 0,J C 0] 34 (0,0))]) au (ft.of W1 ap e2) (by
  intro p hp;simp only[Rp,RO,SH] at hp;rcases hp with rfl | rfl
  ·exact ae
  ·exact ah)
 rw[lr] at hP;obtain⟨g4,ac⟩:∃ g4,W1.heap.size+ap.size=g4:=⟨_,rfl⟩
 rw[ac] at hP |-;generalize (fx W1 ap e2).alloc _=wc at hP |-;clear au ac a0 a1 a2 a3 a4 a5 a6 af al;obtain⟨a0,a1,a2,a3,a4,a5,a6,af,al⟩:=zS (hP.kept (g:=g) (.head _));have k0:=Ty.up _ k0 hP.fx;have k1:=Ty.up _ k1 hP.fx;have k2:=Ty.up _ k2 hP.fx;have k3:=Ty.up _ k3 hP.fx;have HP:=fh hP;clear hP;cases q with
 | false=>
  have HQ:=fh (show vV x=(x,-1) from by unfold vV;rw[hq];rfl);clear hq;go_upto_region 3 with(go_at_call 13;(with_reducible refine(zg0 (x:=x) k0 k1 k2 k3 an).mono ?_);rw[HB.out];rintro e w4 ⟨rfl,ac⟩);have ad:=HP.out.nI ac;obtain⟨p0,p1,p2,p3,p4,p5,p6,pf,pl⟩:=zS ad.box;have hz:=ad.kept (g:=g+1) (.tail _ (.head _));obtain⟨z0,z1,z2,z3,z4,z5,z6,zf,zl⟩:=zS hz;obtain⟨aG,aH,aJ⟩:=ad.whole ht hle hsl;have ag:=a9.trans ad.fx;clear ad;go_wp2_with(fail);have h9:=mK hz (G B0 x.fo.fq.length d0) (G B1 x.fo.fu.length d1) (G B2 x.fo.Entries.length d2) (G B3 x.fk.length d3) (J C x.fO) (J C x.Left) (J C x.Slice);generalize (((((((w4.setCell _ _).setCell _ _).setCell _ _).setCell _ _).setCell _ _).setCell _ _).setCell _ _)=QJ at h9 |-;obtain⟨r0,r1,r2,r3,r4,r5,r6,_,_⟩:=zS h9.1;have aj:=h9.2.fx ag (fun b hb'=>by simp at hb';omega);have ai:=aG.fJ h9.2 (fun b hb' hm=>by simp at hm;exact aJ _ (.tail _ (.head _)) (hm ▸ hb'));rw[HQ.out];exact QU (v:=.tuple #[.agg #[G B0 x.fo.fq.length d0,G B1 x.fo.fu.length d1,G B2 x.fo.Entries.length d2,G B3 x.fk.length d3,J C x.fO,J C x.Left,J C x.Slice],J C (-1)]) (by simp[Rd,results24,go_sem,r0,r1,r2,r3,r4,r5,r6]) rfl ⟨B0,d0,B1,d1,B2,d2,B3,d3,rfl,ai.fresh (fun b hb2=>by have:=aH b hb2;omega),aj⟩
 | true=>
  have HQ:=fh (show vV x=jz x from by unfold vV;rw[hq];rfl);have hv:=km.mk' (QK:=1099511600000) hq ar.out aB.out;have HV:=fh hv;clear hq hv;go_upto_region 4 with(go_at_call 13;(with_reducible refine(zg0 (x:=x) k0 k1 k2 k3 an).mono ?_);rw[HB.out];rintro e w4 ⟨rfl,ac⟩);have aq:=fh (HP.out.nI ac);go_upto_region 5 with(go_at_call 39;(with_reducible refine(zuZ aq.out HV.out (by omega)).mono ?_);rintro e w5 ⟨rfl,a8,S5,a7⟩);have ab:=CX x;have aa:=Lc x;obtain⟨x5,ao⟩:∃ y,jz x=y:=⟨_,rfl⟩
  rw[ao] at a8 a7 ab aa |-;have av:=HQ.out.trans ao;have aC:=fh av;have az:zI x5.1<=1099511627776:=by have:=ar.out;omega
  obtain⟨y,t5⟩:=x5;simp only at a8 a7 ab aa az |-;clear aa av ao HQ aq HP HV ab;have aK:=a7.fx;have hz:=a7.kept (g:=g+1) (.tail _ (.head _));obtain⟨z0,z1,z2,z3,z4,z5,z6,zf,zl⟩:=zS hz;have ag:=a9.trans a7.fx;obtain⟨f0,f1,f2⟩:=xF a7.sp.read;have f3:=a7.th.read;have am:=a7.box;obtain⟨p0,p1,p2,p3,p4,p5,p6,pf,pl⟩:=zS am;have aI:=a8.n3;have e1:=a8.t0;have aD:=a8.t1;have e3:=a8.l1;have e4:=a8.l2;have e5:=a8.s1;have yt:fD y.fO:=⟨by omega,by omega⟩
  have yl:fD y.Left:=⟨by omega,by omega⟩
  have ys:fD y.Slice:=⟨by omega,by omega⟩
  clear e1 aD e3 e4 e5 aI a8 a7;go_wp2_with(go_at_call 37;(with_reducible refine(zdb (x:=y) f0 f1 f2 f3 yt yl ys az).mono ?_);rintro e w6 ⟨C0,e0,C1,e1,C2,e2,C3,e3,rfl,aE,aw⟩;have aA:=zj hz aw;obtain⟨z0,z1,z2,z3,z4,z5,z6,zf,zl⟩:=zS aA);obtain⟨S6,aF,ax⟩:=fU.has aE;have ak:=ag.trans aw;have aL:=(blt hz)
  have aN:=ag.size;have h9:=mK aA (G C0 y.fo.fq.length e0) (G C1 y.fo.fu.length e1) (G C2 y.fo.Entries.length e2) (G C3 y.fk.length e3) (J C y.fO) (J C y.Left) (J C y.Slice);generalize (((((((w6.setCell _ _).setCell _ _).setCell _ _).setCell _ _).setCell _ _).setCell _ _).setCell _ _)=QJ at h9 |-;obtain⟨r0,r1,r2,r3,r4,r5,r6,_,_⟩:=zS h9.1;have aj:=h9.2.fx ak (fun b hb'=>by simp at hb';omega);have ai:=aF.fJ h9.2 (fun b hb' hm=>by simp at hm;have:=ax _ hb';omega);rw[aC.out];exact QU (v:=.tuple #[.agg #[G C0 y.fo.fq.length e0,G C1 y.fo.fu.length e1,G C2 y.fo.Entries.length e2,G C3 y.fk.length e3,J C y.fO,J C y.Left,J C y.Slice],J C t5]) (by simp[Rd,results24,go_sem,r0,r1,r2,r3,r4,r5,r6]) rfl ⟨C0,e0,C1,e1,C2,e2,C3,e3,rfl,ai.fresh (fun b hb2=>by have:=ax b hb2;omega),aj⟩
end Go.Proofs.YthgbglbaemelhaaGreat
