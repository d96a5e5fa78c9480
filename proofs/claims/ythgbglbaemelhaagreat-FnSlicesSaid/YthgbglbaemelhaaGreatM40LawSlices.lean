/-
  PART.
-/
import Derived.Test.YthgbglbaemelhaaGreatM13LawSlices
import Derived.StillTailTactics
set_option linter.unusedVariables false
set_option linter.unusedSimpArgs false
set_option maxRecDepth 100000
set_option maxHeartbeats 8000000
namespace Go.Proofs.YthgbglbaemelhaaGreat
open Value renaming slice->G,int->J,bool->H
open IntKind renaming i64->C,wrap->QP
open Option renaming none->D,some->Z
open Obj renaming cells->F
open Bool renaming false->I,true->M
open Go renaming World->U,results->Rd,Calls->Rh,Addr->Ri,yielded->Su
open World renaming cell?->QL,frozen?->Rb
open _root_.Int renaming toNat_natCast->Ra
open RowKit renaming intOf->Ry,wrap64->Sf
open Region renaming wanted->Rx,ready->RL,noSelect->Tn,free->Ui
open Tryz
open Go.RowKit
variable {A Ao:X Ri}{B:Q (Nat × Obj)}{QK c co gc gm:Nat}{S So:Q Nat}{W Y:U}{a code n v v1 v3:Int}{b b1 b3 b5:Bool}{m m' m1 m3 m5:fy}{o:X fy}
theorem MJ:∀(imgs:Q gu)(bases:Q Int)(e:Int)(k:Nat),jy imgs bases e k=(-1,-1)∨∃(j:Nat)(x:gu)(b:Int),imgs[j]?=Z x/\bases[j]?=Z b/\jy imgs bases e k=(((k+j:Nat):Int),e-b)/\b<=e/\e<b+x.Code.size:=by
 intro imgs;induction imgs with
 | nil=>intro bases e k;exact .inl (EI bases e k)
 | cons x r ih=>
  intro bases e k;cases bases with
  | nil=>exact .inl rfl
  | cons b bs=>
   have h:=CZ (imgs:=x::r) (bases:=b::bs) (k:=0) (x:=x) (b:=b) rfl rfl e;by_cases hq:b<=e/\e<b+x.Code.size
   ·refine .inr ⟨0,x,b,rfl,rfl,?_,hq.1,hq.2⟩
    unfold jy;rw[Q5 hq];rfl
   ·have hs:jy (x::r) (b::bs) e k=jy r bs e (k+1):=by
     rw[jy,QZ hq]
    rcases ih bs e (k+1) with h1 | ⟨j,y,c,h1,h2,h3,h4,h5⟩
    ·exact .inl (hs.trans h1)
    ·exact .inr ⟨j+1,y,c,h1,h2,by rw[hs,h3];simp;omega,h4,h5⟩
def sR (s:gv)(a:Int):s7:=
 if (loc s a).1<0 then ⟨0,0,0,I⟩ else
  match s.fq[(loc s a).1.toNat]? with
  | some i=>jh i.Code (loc s a).2
  | none=>⟨0,0,0,I⟩
structure nZ (W:U)(gc gm:Nat)(bad:Bool)(m:fy)(A:X Ri)(c:Nat)(S:Q Nat)(Ao:X Ri)(co:Nat)(So:Q Nat):Prop where
 core:W.heap[gc]?=Z (F #[.pointer (Z ⟨gm,0,D⟩),H bad] 191 (0,0))
 jw:W.heap[gm]?=Z (F #[J C m.Pc,J C m.Sp,J C m.Fp,G A m.Stack.length c,G Ao m.Out.length co,J C m.State,J C m.Value] 41 (0,0))
 stack:Has (zr.sl 3) W [G A m.Stack.length c] m.Stack S
 out:Has (zr.sl 3) W [G Ao m.Out.length co] m.Out So
 jS:∀ b∈S,b∉So
 cm:gc≠gm
 cs:gc∉S/\gc∉So/\gm∉S/\gm∉So
theorem nZ.qP {bad:Bool} (h:nZ W gc gm bad m A c S Ao co So)(b:Bool):nZ (W.setCell ⟨gc,1,D⟩ (H b)) gc gm b m A c S Ao co So:=by
 have ho:fw [gc] W (W.setCell ⟨gc,1,D⟩ (H b)):=(fw.refl _ _).setCell (p:=⟨gc,1,D⟩) (by simp) _;refine⟨jb (i:=1) (v:=H b) h.core rfl,(ho.block gm (blt h.jw) (by simpa using Ne.symm h.cm)).trans h.jw,h.stack.fJ ho (fun x hx hm=>?_),h.out.fJ ho (fun x hx hm=>?_),h.jS,h.cm,h.cs⟩
 ·simp at hm;exact h.cs.1 (hm ▸ hx)
 ·simp at hm;exact h.cs.2.1 (hm ▸ hx)
theorem zw1 {bad:Bool} (h:nZ W gc gm bad m A c S Ao co So) :
  Rh prog 132 #[.pointer (Z ⟨gc,0,D⟩),J C a] W fun r W'=>r=.returned (H (!(bad || !fT a 0 1199)))/\nZ W' gc gm (bad || !fT a 0 1199) m A c S Ao co So/\fw [gc] W W':=by
 obtain⟨y0,y1,a0,a1,yl⟩:=kI h.core;obtain⟨b,hb⟩:∃ b,fT a 0 1199=b:=⟨_,rfl⟩
 rw[hb];have HB:=fh hb;have HC:=fh h;clear hb h;cases b with
 | true=>
  go_enter func132,ntmps132;go_wp2_with(go_at_call 38;(with_reducible refine(lP _ _ _ _).mono ?_);rw[HB.out];rintro e w1 ⟨rfl,rfl⟩);go_ret;exact⟨by simp,by simpa using HC.out,fw.refl _ _⟩
 | false=>
  go_enter func132,ntmps132;go_wp2_with(go_at_call 38;(with_reducible refine(lP _ _ _ _).mono ?_);rw[HB.out];rintro e w1 ⟨rfl,rfl⟩);go_ret;exact⟨by simp,by simpa using HC.out.qP M,(fw.refl _ _).setCell (p:=⟨gc,1,D⟩) (by simp) _⟩
theorem nZ.word {bad:Bool} (h:nZ W gc gm bad m A c S Ao co So){k:Nat}(hk:k<m.Stack.length) :
  ∃ gs v,A=Z ⟨gs,0,D⟩/\gs∈S/\gs<W.heap.size/\(∀ j,Rb W ⟨gs,j,D⟩=I)/\m.Stack[k]?=Z v/\fD v/\QL W ⟨gs,k,D⟩=Z (J C v)/\
   ∀ u,fD u->nZ (W.setCell ⟨gs,k,D⟩ (J C u)) gc gm bad { m with Stack:=m.Stack.set k u } A c S Ao co So/\fw S W (W.setCell ⟨gs,k,D⟩ (J C u)):=by
 obtain⟨v,hv⟩:∃ v,m.Stack[k]?=Z v:=⟨_,QW hk⟩
 obtain⟨gs,ec,Sc,hA,a5,a6,a9,a8,aa,hO,a4,a0,a1,_⟩:=qt h.stack.1 h.stack.2 hv;obtain⟨rfl,b1,b2,rfl⟩:=hO;have a2:=a0 0 _ rfl;rw[show k*zr.size+0=k from by show k*1+0=k;omega] at a2;refine⟨gs,v,hA,a5,a6,a4,hv,⟨b1,b2⟩,a2,fun u hu=>?_⟩;have hp:=a1 0 (J C u) u (by decide) rfl ⟨rfl,hu.1,hu.2,rfl⟩;rw[show k*zr.size+0=k from by show k*1+0=k;omega] at hp;have a3:gc∉S:=h.cs.1;have a7:gm∉S:=h.cs.2.2.1;refine⟨⟨(hp.2.block gc (blt h.core) a3).trans h.core,?_,?_,h.out.fJ hp.2 (fun x hx hm=>h.jS x hm hx),h.jS,h.cm,h.cs⟩,hp.2⟩
 ·have hm:=(hp.2.block gm (blt h.jw) a7).trans h.jw
  simpa only[Rn] using hm
 ·have h9:Has (zr.sl 3) (W.setCell ⟨gs,k,D⟩ (J C u)) [G A m.Stack.length c] (m.Stack.set k u) S:=⟨hp.1,h.stack.2⟩
  simpa only[Rn] using h9
structure nB (QK:Nat)(m:fy):Prop where
 len:m.Stack.length=1200
 out:m.Out.length<=QK
 pc:fD m.Pc
 sp:fD m.Sp
 fp:fD m.Fp
 st:fD m.State
 va:fD m.Value
structure lQ (B:Q (Nat × Obj))(Y W:U)(QK gc gm:Nat)(bad:Bool)(m:fy)(A:X Ri)(c:Nat)(S:Q Nat)(Ao:X Ri)(co:Nat)(So:Q Nat):Prop where
 iF:nZ W gc gm bad m A c S Ao co So
 ok:nB QK m
 fx:ft Y W
 lc:Y.heap.size<=gc
 lm:Y.heap.size<=gm
 ls:∀ b∈S,Y.heap.size<=b
 lo:∀ b∈So,Y.heap.size<=b
 kb:∀ p∈B,W.heap[p.1]?=Z p.2/\p.1≠gc/\p.1≠gm/\p.1∉S/\p.1∉So
def gX (B:Q (Nat × Obj))(Y W:U)(QK gc gm:Nat)(bad:Bool)(m:fy):Prop:=
 ∃ A c S Ao co So,lQ B Y W QK gc gm bad m A c S Ao co So
def opt (bad:Bool)(m:fy):X fy:=if bad=M then D else Z m
theorem nZ.num {bad:Bool} (h:nZ W gc gm bad m A c S Ao co So){i:Nat}{v:Value}(hs:m'.Stack=m.Stack)(ho:m'.Out=m.Out)
  (hrow:(#[J C m.Pc,J C m.Sp,J C m.Fp,G A m.Stack.length c,G Ao m.Out.length co,J C m.State,J C m.Value]:Array Value).setIfInBounds i v=#[J C m'.Pc,J C m'.Sp,J C m'.Fp,G A m'.Stack.length c,G Ao m'.Out.length co,J C m'.State,J C m'.Value]) :
  nZ (W.setCell ⟨gm,i,D⟩ v) gc gm bad m' A c S Ao co So:=by
 have a0:fw [gm] W (W.setCell ⟨gm,i,D⟩ v):=(fw.refl _ _).setCell (p:=⟨gm,i,D⟩) (by simp) _;refine⟨(a0.block gc (blt h.core) (by simpa using h.cm)).trans h.core,jb (i:=i) (v:=v) h.jw hrow,?_,?_,h.jS,h.cm,h.cs⟩
 ·rw[hs]
  exact h.stack.fJ a0 (fun x hx hm=>by simp at hm;exact h.cs.2.2.1 (hm ▸ hx))
 ·rw[ho]
  exact h.out.fJ a0 (fun x hx hm=>by simp at hm;exact h.cs.2.2.2 (hm ▸ hx))
theorem lQ.only {W':U} {bad bad':Bool} {L:Q Nat} (h:lQ B Y W QK gc gm bad m A c S Ao co So)(hc:nZ W' gc gm bad' m' A c S Ao co So)(hk:nB QK m')(ho:fw L W W')(hL:∀ b∈L,b=gc∨b=gm∨b∈S∨b∈So):lQ B Y W' QK gc gm bad' m' A c S Ao co So:=
 ⟨hc,hk,ho.fx h.fx (fun b hb=>by
  rcases hL b hb with rfl | rfl | h1 | h1
  ·exact h.lc
  ·exact h.lm
  ·exact h.ls b h1
  ·exact h.lo b h1),h.lc,h.lm,h.ls,h.lo,fun p hp=>by
  obtain⟨h1,h2,h3,h4,h5⟩:=h.kb p hp;refine⟨(ho.block p.1 (blt h1) (fun hm=>?_)).trans h1,h2,h3,h4,h5⟩;rcases hL p.1 hm with h6 | h6 | h6 | h6
  ·exact h2 h6
  ·exact h3 h6
  ·exact h4 h6
  ·exact h5 h6⟩
theorem gX.kept {bad:Bool} {g:Nat} {o:Obj} (h:gX B Y W QK gc gm bad m)(hp:(g,o)∈B):W.heap[g]?=Z o:=by
 obtain⟨A,c,S,Ao,co,So,h⟩:=h;exact(h.kb (g,o) hp).1
theorem gX.jF {bad:Bool} {cs:Array Value} {t:TypeId} (h:gX B Y W QK gc gm bad m):gX ((W.heap.size,F cs t (0,0))::B) Y (W.alloc (F cs t)) QK gc gm bad m:=by
 obtain⟨A,c,S,Ao,co,So,h⟩:=h;have hg:ft W (W.alloc (F cs t)):=(ft.refl _).alloc _;refine⟨A,c,S,Ao,co,So,⟨zj h.iF.core hg,zj h.iF.jw hg,h.iF.stack.fx hg,h.iF.out.fx hg,h.iF.jS,h.iF.cm,h.iF.cs⟩,h.ok,h.fx.trans hg,h.lc,h.lm,h.ls,h.lo,fun p hp=>?_⟩;rcases Rp.1 hp with rfl | hp
 ·refine⟨QO _ _,?_,?_,fun hm=>?_,fun hm=>?_⟩
  ·have:=(blt h.iF.core)
   simp only[ne_eq];omega
  ·have:=(blt h.iF.jw)
   simp only[ne_eq];omega
  ·have:=h.iF.stack.lt _ hm
   simp only at this;omega
  ·have:=h.iF.out.lt _ hm
   simp only at this;omega
 ·obtain⟨h1,h2⟩:=h.kb p hp
  exact⟨zj h1 hg,h2⟩
theorem gX.drop {B':Q (Nat × Obj)} {bad:Bool} (h:gX B Y W QK gc gm bad m)(hs:∀ p∈B',p∈B):gX B' Y W QK gc gm bad m:=by
 obtain⟨A,c,S,Ao,co,So,h⟩:=h;exact⟨A,c,S,Ao,co,So,h.iF,h.ok,h.fx,h.lc,h.lm,h.ls,h.lo,fun p hp=>h.kb p (hs p hp)⟩
theorem gX.cells {bad:Bool} (h:gX B Y W QK gc gm bad m):∃ A c Ao co,
  QL W ⟨gc,0,D⟩=Z (.pointer (Z ⟨gm,0,D⟩))/\QL W ⟨gc,1,D⟩=Z (H bad)/\(∀ j,Rb W ⟨gc,j,D⟩=I)/\gc<W.heap.size/\
  QL W ⟨gm,0,D⟩=Z (J C m.Pc)/\QL W ⟨gm,1,D⟩=Z (J C m.Sp)/\QL W ⟨gm,2,D⟩=Z (J C m.Fp)/\QL W ⟨gm,3,D⟩=Z (G A m.Stack.length c)/\QL W ⟨gm,4,D⟩=Z (G Ao m.Out.length co)/\QL W ⟨gm,5,D⟩=Z (J C m.State)/\QL W ⟨gm,6,D⟩=Z (J C m.Value)/\(∀ j,Rb W ⟨gm,j,D⟩=I)/\gm<W.heap.size/\nB QK m:=by
 obtain⟨A,c,S,Ao,co,So,h⟩:=h;obtain⟨y0,y1,a0,a1,yl⟩:=kI h.iF.core;obtain⟨z0,z1,z2,z3,z4,z5,z6,zf,zl⟩:=zS h.iF.jw;exact⟨A,c,Ao,co,y0,y1,fun j=>by simp[Rb,h.iF.core],yl,z0,z1,z2,z3,z4,z5,z6,zf,zl,h.ok⟩
theorem gX.num {B:Q (Nat × Obj)}{Y W:U}{QK gc gm:Nat}{bad:Bool}{m m':fy}(h:gX B Y W QK gc gm bad m){i:Nat}{v:Value}(hs:m'.Stack=m.Stack)(ho:m'.Out=m.Out)(hk:nB QK m')
  (hrow:∀ x y,(#[J C m.Pc,J C m.Sp,J C m.Fp,x,y,J C m.State,J C m.Value]:Array Value).setIfInBounds i v=#[J C m'.Pc,J C m'.Sp,J C m'.Fp,x,y,J C m'.State,J C m'.Value]):gX B Y (W.setCell ⟨gm,i,D⟩ v) QK gc gm bad m':=by
 obtain⟨A,c,S,Ao,co,So,h⟩:=h;refine⟨A,c,S,Ao,co,So,h.only (h.iF.num hs ho (by rw[hrow,hs,ho])) hk (L:=[gm]) ((fw.refl _ _).setCell (p:=⟨gm,i,D⟩) (by simp) _) (fun b hb=>by simp at hb;exact .inr (.inl hb))⟩
theorem gX.bad {B:Q (Nat × Obj)}{Y W:U}{QK gc gm:Nat}{bad:Bool}{m:fy}(h:gX B Y W QK gc gm bad m)(b:Bool):gX B Y (W.setCell ⟨gc,1,D⟩ (H b)) QK gc gm b m:=by
 obtain⟨A,c,S,Ao,co,So,h⟩:=h;exact⟨A,c,S,Ao,co,So,h.only (h.iF.qP b) h.ok (L:=[gc]) ((fw.refl _ _).setCell (p:=⟨gc,1,D⟩) (by simp) _) (fun b hb=>by simp at hb;exact .inl hb)⟩
theorem gX.word {B:Q (Nat × Obj)}{Y W:U}{QK gc gm:Nat}{bad:Bool}{m:fy}(h:gX B Y W QK gc gm bad m){k:Nat}(hk:k<1200) :
  ∃ gs v c,QL W ⟨gm,3,D⟩=Z (G (Z ⟨gs,0,D⟩) m.Stack.length c)/\gs<W.heap.size/\(∀ j,Rb W ⟨gs,j,D⟩=I)/\m.Stack[k]?=Z v/\fD v/\QL W ⟨gs,k,D⟩=Z (J C v)/\gs≠gc/\gs≠gm/\
   ∀ u,fD u->gX B Y (W.setCell ⟨gs,k,D⟩ (J C u)) QK gc gm bad { m with Stack:=m.Stack.set k u }:=by
 obtain⟨A,c,S,Ao,co,So,h⟩:=h;obtain⟨gs,v,rfl,hS,hl,hf,hv,hb,hc,a0⟩:=h.iF.word (k:=k) (by rw[h.ok.len];exact hk);obtain⟨z0,z1,z2,z3,z4,z5,z6,zf,zl⟩:=zS h.iF.jw;refine⟨gs,v,c,z3,hl,hf,hv,hb,hc,fun e=>h.iF.cs.1 (e ▸ hS),fun e=>h.iF.cs.2.2.1 (e ▸ hS),fun u hu=>?_⟩;obtain⟨h1,h2⟩:=a0 u hu;exact⟨_,c,S,Ao,co,So,h.only h1 ⟨by simpa using h.ok.len,h.ok.out,h.ok.pc,h.ok.sp,h.ok.fp,h.ok.st,h.ok.va⟩ h2 (fun b hb=>.inr (.inr (.inl hb)))⟩
theorem gX.at_ {bad:Bool} (h:gX B Y W QK gc gm bad m) :
  Rh prog 132 #[.pointer (Z ⟨gc,0,D⟩),J C a] W fun r W'=>r=.returned (H (!(bad || !fT a 0 1199)))/\gX B Y W' QK gc gm (bad || !fT a 0 1199) m:=by
 obtain⟨A,c,S,Ao,co,So,h⟩:=h;refine(zw1 h.iF (a:=a)).mono ?_;rintro r W' ⟨h1,h2,h3⟩;exact⟨h1,A,c,S,Ao,co,So,h.only h2 h.ok h3 (fun b hb=>by simp at hb;exact .inl hb)⟩
theorem gX.Du {bad:Bool} (h:gX B Y W QK gc gm bad m) :
  Rh prog 132 #[.pointer (Z ⟨gc,0,D⟩),J C a] W fun r W'=>r=.returned (H (!(bad || !fT a 0 1199)))/\gX B Y W' QK gc gm (bad || !fT a 0 1199) m/\∀ i v,QL W ⟨gm,i,D⟩=Z v->QL W' ⟨gm,i,D⟩=Z v:=by
 obtain⟨A,c,S,Ao,co,So,h⟩:=h;refine(zw1 h.iF (a:=a)).mono ?_;rintro r W' ⟨h1,h2,h3⟩;exact⟨h1,⟨A,c,S,Ao,co,So,h.only h2 h.ok h3 (fun b hb=>by simp at hb;exact .inl hb)⟩,fun i v hv=>(h3.cell (blt h.iF.jw) (by simpa using Ne.symm h.iF.cm) i).trans hv⟩
theorem MT {K:fy->X fy} (h:opt b m=o.bind fun m=>iD m v):(o.bind fun m=>(iD m v).bind K)=(opt b m).bind K:=by
 rw[h,Option.bind_assoc]
theorem sx {γ:Type} {K:fy × Int->X γ} (h:(opt b m).map (fun m=>(m,v))=o.bind iq):(o.bind fun m=>(iq m).bind K)=(opt b m).bind fun m=>K (m,v):=by
 rw[<-Option.bind_assoc,<-h];cases opt b m <;> rfl
theorem Dl (hb:fT a 0 1199=M)(h:m.Stack[a.toNat]?=Z v):mO m a=Z v:=by
 unfold mO;rw[Q5 hb,h]
theorem yg (hb:fT a 0 1199=I):mO m a=D:=by
 unfold mO;rw[hb];rfl
theorem pe {a b:U} (h:ft a b){p:Ri}{v:Value}(hp:a.cell? p=Z v):b.cell? p=Z v:=by
 obtain⟨os,d,rfl⟩:=h;exact zd hp os d
theorem nZ.fx {W W':U}{gc gm:Nat}{bad:Bool}{m:fy}{A:X Ri}{c:Nat}{S:Q Nat}{Ao:X Ri}{co:Nat}{So:Q Nat}(h:nZ W gc gm bad m A c S Ao co So)(hg:ft W W'):nZ W' gc gm bad m A c S Ao co So:=
 ⟨zj h.core hg,zj h.jw hg,h.stack.fx hg,h.out.fx hg,h.jS,h.cm,h.cs⟩
theorem gX.fx {B:Q (Nat × Obj)}{Y W W':U}{QK gc gm:Nat}{bad:Bool}{m:fy}(h:gX B Y W QK gc gm bad m)(hg:ft W W'):gX B Y W' QK gc gm bad m:=by
 obtain⟨A,c,S,Ao,co,So,h⟩:=h;exact⟨A,c,S,Ao,co,So,h.iF.fx hg,h.ok,h.fx.trans hg,h.lc,h.lm,h.ls,h.lo,fun p hp=>⟨zj (h.kb p hp).1 hg,(h.kb p hp).2⟩⟩
def PY (gm:Nat)(W W':U):Prop:=∀ v,QL W ⟨gm,4,D⟩=Z v->QL W' ⟨gm,4,D⟩=Z v
def iy (f:fy->X fy)(B:Q (Nat × Obj))(Y:U)(QK gc gm:Nat)(bad:Bool)(m:fy)(r:Ending)(W':U):Prop:=
 r=.returned (.tuple #[])/\∃ b' m',gX B Y W' QK gc gm b' m'/\opt b' m'=(opt bad m).bind f
def IL (B:Q (Nat × Obj))(Y:U)(QK gc gm:Nat)(bad:Bool)(m:fy)(r:Ending)(W':U):Prop:=
 ∃ v b' m',fD v/\r=.returned (J C v)/\gX B Y W' QK gc gm b' m'/\(opt b' m').map (fun m=>(m,v))=(opt bad m).bind iq
theorem Qd {sp:Int} {bad:Bool} (hs:fD sp):(bad || !fT (Sf (sp-1)) 0 1199)=(bad || !fT sp 1 1200):=by
 cases bad with
 | true=>rfl
 | false=>
  simp only[UK];congr 1;rw[Ut,zu,zu];unfold Sf;have:=hs.1;have:=hs.2;omega
theorem Mp {bad:Bool} (h:(bad || !fT m.Sp 1 1200)=M):(opt bad m).bind (fun m=>iD m v)=D:=by
 cases bad with
 | true=>rfl
 | false=>
  show iD m v=D;unfold iD;rw[QZ];intro h2;rw[h2] at h;cases h
theorem Mq (h:fT m.Sp 1 1200=M):(opt I m).bind (fun m=>iD m v)=Z { m with Sp:=m.Sp-1,Stack:=m.Stack.set (m.Sp-1).toNat v }:=by
 show iD m v=_;unfold iD;rw[Q5 h]
theorem zew {bad:Bool} (h:gX B Y W QK gc gm bad m)(hv:fD v) :
  Rh prog 173 #[.pointer (Z ⟨gc,0,D⟩),J C v] W (iy (fun m=>iD m v) B Y QK gc gm bad m):=by
 obtain⟨A,c,Ao,co,y0,y1,yf,yl,z0,z1,z2,z3,z4,z5,z6,zf,zl,hk⟩:=h.cells;obtain⟨q,hq⟩:∃ q,(bad || !fT m.Sp 1 1200)=q:=⟨_,rfl⟩
 have HA:=fh ((Qd (bad:=bad) hk.sp).trans hq);cases q with
 | true=>
  have HQ:=fh (Mp (v:=v) hq);have HK:=fh hk;have HC:=fh h;clear hq h hk;go_enter func173,ntmps173;go_wp2_with(go_at_call 132;(with_reducible refine(HC.out.at_).mono ?_);rw[HA.out];rintro e w1 ⟨rfl,a1⟩);exact Rz (v:=.tuple #[]) (by simp[Rd,results173,go_sem]) rfl ⟨rfl,M,m,a1,HQ.out.symm⟩
 | false=>
  obtain⟨rfl,hb⟩:bad=I/\fT m.Sp 1 1200=M:=by simpa using hq
  have af:=zu.1 hb;have HQ:=fh (Mq (v:=v) hb);obtain⟨k,ai⟩:=Rl (show 0<=m.Sp-1 by omega);have a8:m.Sp=((k+1:Nat):Int):=by omega
  have a3:k<1200:=by omega
  have HC:=fh h;have a6:=fh (show (I || !fT (k:Int) 0 1199)=I from by rw[UK,pU (by omega) (by omega)];rfl);clear hq h hb HA;go_enter func173,ntmps173;go_upto_region 2 with(go_at_call 132;(with_reducible refine(HC.out.at_ (a:=(k:Int))).mono ?_);rw[a6.out];rintro e w1 ⟨rfl,a1⟩;obtain⟨A1,c1,ab,ad,t0,t1,tf,tl,u0,u1,u2,u3,u4,u5,u6,uf,ul,a0⟩:=a1.cells);have hI:fD (k:Int):=⟨by omega,by omega⟩
  have a2:=a1.num (i:=1) (v:=J C (k:Int)) (m':={ m with Sp:=(k:Int) }) rfl rfl ⟨a0.len,a0.out,a0.pc,hI,a0.fp,a0.st,a0.va⟩ (fun _ _=>rfl);generalize w1.setCell _ _=w2 at a2 |-;clear t0 t1 tf tl u0 u1 u2 u3 u4 u5 u6 uf ul;obtain⟨A2,c2,ac,ae,t0,t1,tf,tl,u0,u1,u2,u3,u4,u5,u6,uf,ul,a7⟩:=a2.cells;obtain⟨gs,vo,cs,x3,xl,xf,xv,xb,xc,a9,aa,a5⟩:=a2.word a3;have a4:((1200:Nat):Int)=m.Stack.length:=by rw[a0.len]
  have aj:(k:Int)<(m.Stack.length:Int):=by rw[<-a4];omega
  have ag:gc≠gs:=a9.symm;have ah:gm≠gs:=aa.symm;clear u3;go_region_held3 (fun w'=>QL w' ⟨gc,0,D⟩=Z (.pointer (Z ⟨gm,0,D⟩))/\QL w' ⟨gm,1,D⟩=Z (J C (k:Int))/\QL w' ⟨gm,3,D⟩=Z (G (Z ⟨gs,0,D⟩) m.Stack.length cs)) ((repeat' apply QQ) <;> ((repeat (first | with_reducible assumption | with_reducible refine zd ?_ _ _ | with_reducible refine zk ?_ _ | with_reducible refine zc ?_ | with_reducible refine xX ?_ ?_));done)) (first | fail);exact Rz (v:=.tuple #[]) (by simp[Rd,results173,go_sem]) rfl ⟨rfl,I,_,(a5 v hv).fx gG,by rw[HQ.out];show Z _=Z _;rw[a8,show ((k+1:Nat):Int)-1=(k:Int) from by omega];rfl⟩
theorem Og {bad:Bool} (h:(bad || !fT m.Sp 0 1199)=M):(opt bad m).bind iq=D:=by
 cases bad with
 | true=>rfl
 | false=>
  show iq m=D;unfold iq;rw[yg (by simpa using h)];rfl
theorem zuD {bad:Bool} (h:gX B Y W QK gc gm bad m) :
  Rh prog 176 #[.pointer (Z ⟨gc,0,D⟩)] W (fun r W'=>IL B Y QK gc gm bad m r W'/\PY gm W W'):=by
 obtain⟨A,c,Ao,co,y0,y1,yf,yl,z0,z1,z2,z3,z4,z5,z6,zf,zl,hk⟩:=h.cells;obtain⟨q,hq⟩:∃ q,(bad || !fT m.Sp 0 1199)=q:=⟨_,rfl⟩
 have HA:=fh hq;cases q with
 | true=>
  have HQ:=fh (Og hq);have HK:=fh hk;have HC:=fh h;clear hq h hk;go_enter func176,ntmps176;go_wp2_with(go_at_call 132;(with_reducible refine(HC.out.Du).mono ?_);rw[HA.out];rintro e w1 ⟨rfl,a2,a4⟩);go_ret;exact⟨⟨0,M,m,⟨by decide,by decide⟩,rfl,a2,HQ.out.symm⟩,fun v hv=>a4 4 v hv⟩
 | false=>
  obtain⟨rfl,hb⟩:bad=I/\fT m.Sp 0 1199=M:=by simpa using hq
  have ah:=zu.1 hb;obtain⟨k,a8⟩:=Rl (show 0<=m.Sp by omega);have a1:k<1200:=by omega
  obtain⟨_,vo,_,_,_,_,a7,ak,_⟩:=h.word a1
  have HQ:=fh (show (opt I m).bind iq=Z ({ m with Sp:=m.Sp+1 },vo) from by
   show iq m=_;unfold iq;rw[Dl hb (v:=vo) (by rw[a8];exact a7)]
   rfl)
  have HV:=fh a7;have HC:=fh h;have a9:=fh (show (I || !fT (k:Int) 0 1199)=I from by rw[UK,pU (by omega) (by omega)];rfl);clear hq h hb HA a7;go_enter func176,ntmps176;go_upto_region 4 with(go_at_call 132;(with_reducible refine(HC.out.Du (a:=(k:Int))).mono ?_);rw[a9.out];rintro e w1 ⟨rfl,a2,a4⟩;obtain⟨A1,c1,ad,af,t0,t1,tf,tl,u0,u1,u2,u3,u4,u5,u6,uf,ul,a0⟩:=a2.cells);have hI:fD ((k:Int)+1):=⟨by omega,by omega⟩
  have a3:=a2.num (i:=1) (v:=J C ((k:Int)+1)) (m':={ m with Sp:=(k:Int)+1 }) rfl rfl ⟨a0.len,a0.out,a0.pc,hI,a0.fp,a0.st,a0.va⟩ (fun _ _=>rfl);have a5:∀ v,QL W ⟨gm,4,D⟩=Z v->(w1.setCell ⟨gm,1,D⟩ (J C ((k:Int)+1))).cell? ⟨gm,4,D⟩=Z v:=fun v hv=>(World.cell?_setCell_other w1 ⟨gm,1,D⟩ ⟨gm,4,D⟩ _ (by simp)).trans (a4 4 v hv);generalize w1.setCell _ _=w2 at a3 a5 |-;have aa:=fh a5;clear a4 a5;clear t0 t1 tf tl u0 u1 u2 u3 u4 u5 u6 uf ul;obtain⟨A2,c2,ae,ag,t0,t1,tf,tl,u0,u1,u2,u3,u4,u5,u6,uf,ul,ab⟩:=a3.cells;obtain⟨gs,vp,cs,x3,xl,xf,xv,xb,xc,al,am,ac⟩:=a3.word a1;obtain rfl:vo=vp:=by have:=HV.out.symm.trans xv;injection this
  have a6:((1200:Nat):Int)=m.Stack.length:=by rw[a0.len]
  have ai:(k:Int)<(m.Stack.length:Int):=by rw[<-a6];omega
  have aj:QP C ((k:Int)+1-1)=(k:Int):=by rw[show (k:Int)+1-1=(k:Int) from by omega];exact iw
  clear u3;go_quiet (fail);go_wp2;go_ret;exact⟨⟨vo,I,_,xb,rfl,a3.fx gG,by rw[HQ.out,a8];rfl⟩,fun v hv=>pe (by(repeat' (first | with_reducible exact ft.refl _ | with_reducible exact ft.ld _ _ _ | with_reducible exact ft.kt _ _ _ _ | assumption | with_reducible apply ft.more | with_reducible apply ft.alloc | with_reducible apply ft.drew | with_reducible apply ft.drewN))) (aa.out v hv)⟩
theorem rU {bad:Bool} (h:gX B Y W QK gc gm bad m) :
  Rh prog 176 #[.pointer (Z ⟨gc,0,D⟩)] W (IL B Y QK gc gm bad m):=(zuD h).mono fun _ _ h=>h.1
theorem zuo {bad:Bool} (h:gX B Y W QK gc gm bad m) :
  Rh prog 174 #[.pointer (Z ⟨gc,0,D⟩),J C a] W (iy (fun m=>(mO m a).bind fun v=>iD m v) B Y QK gc gm bad m):=by
 obtain⟨A,c,Ao,co,y0,y1,yf,yl,z0,z1,z2,z3,z4,z5,z6,zf,zl,hk⟩:=h.cells;obtain⟨q,hq⟩:∃ q,(bad || !fT a 0 1199)=q:=⟨_,rfl⟩
 have HA:=fh hq;cases q with
 | true=>
  have HQ:=fh (show (opt bad m).bind (fun m=>(mO m a).bind fun v=>iD m v)=D from by
   cases bad with
   | true=>rfl
   | false=>
    show (mO m a).bind _=D;rw[yg (by simpa using hq)]
    rfl)
  have HC:=fh h;clear hq h hk;go_enter func174,ntmps174;go_wp2_with(go_at_call 132;(with_reducible refine(HC.out.at_).mono ?_);rw[HA.out];rintro e w1 ⟨rfl,a0⟩);exact Rz (v:=.tuple #[]) (by simp[Rd,results174,go_sem]) rfl ⟨rfl,M,m,a0,HQ.out.symm⟩
 | false=>
  obtain⟨rfl,hb⟩:bad=I/\fT a 0 1199=M:=by simpa using hq
  have ab:=zu.1 hb;obtain⟨k,rfl⟩:=Rl (show 0<=a by omega);have a1:k<1200:=by omega
  obtain⟨_,v,_,_,_,_,a3,ad,_⟩:=h.word a1
  have HQ:=fh (show (opt I m).bind (fun m=>(mO m (k:Int)).bind fun v=>iD m v)=(opt I m).bind (fun m=>iD m v) from by
   show (mO m (k:Int)).bind _=iD m v;rw[Dl hb (v:=v) a3]
   rfl)
  have HV:=fh a3;have HC:=fh h;clear hq h hb a3;go_enter func174,ntmps174;go_upto_region 1 with(go_at_call 132;(with_reducible refine(HC.out.at_).mono ?_);rw[HA.out];rintro e w1 ⟨rfl,a0⟩);obtain⟨A1,c1,a9,aa,t0,t1,tf,tl,u0,u1,u2,u3,u4,u5,u6,uf,ul,a6⟩:=a0.cells;obtain⟨gs,vp,cs,x3,xl,xf,xv,xb,xc,ae,af,a8⟩:=a0.word a1;obtain rfl:v=vp:=by have:=HV.out.symm.trans xv;injection this
  have a2:((1200:Nat):Int)=m.Stack.length:=by rw[a6.len]
  have ac:(k:Int)<(m.Stack.length:Int):=by rw[<-a2];omega
  have a4:=fh a0;clear u3 a0;go_wp2_with(go_at_call 173;(with_reducible refine(zew a4.out xb).mono ?_);rintro e w2 ⟨rfl,b2,m2,a5,a7⟩);exact Rz (v:=.tuple #[]) (by simp[Rd,results174,go_sem]) rfl ⟨rfl,b2,m2,a5,a7.trans HQ.out.symm⟩
theorem zrM {bad:Bool} (h:gX B Y W QK gc gm bad m) :
  Rh prog 175 #[.pointer (Z ⟨gc,0,D⟩),J C a] W (iy (fun m=>(iq m).bind fun p=>nu p.1 a p.2) B Y QK gc gm bad m):=by
 obtain⟨A,c,Ao,co,y0,y1,yf,yl,z0,z1,z2,z3,z4,z5,z6,zf,zl,hk⟩:=h.cells;have HC:=fh h;clear h hk;go_enter func175,ntmps175;go_upto_region 1 with(go_at_call 176;(with_reducible refine(rU HC.out).mono ?_);rintro e w1 ⟨v,b1,m1,hv,rfl,a1,a6⟩);obtain⟨q,hq⟩:∃ q,(b1 || !fT a 0 1199)=q:=⟨_,rfl⟩
 have HA:=fh hq;have HO:=fh (sx (K:=fun p=>nu p.1 a p.2) a6);clear a6;cases q with
 | true=>
  have HQ:=fh (show (opt b1 m1).bind (fun m=>nu m a v)=D from by
   cases b1 with
   | true=>rfl
   | false=>
    show nu m1 a v=D;unfold nu
    rw[QZ (by simpa using hq)])
  have a2:=fh a1;clear hq a1;go_wp2_with(go_at_call 132;(with_reducible refine(a2.out.at_).mono ?_);rw[HA.out];rintro e w2 ⟨rfl,a0⟩);exact Rz (v:=.tuple #[]) (by simp[Rd,results175,go_sem]) rfl ⟨rfl,M,m1,a0,(HO.out.trans HQ.out).symm⟩
 | false=>
  obtain⟨rfl,hb⟩:b1=I/\fT a 0 1199=M:=by simpa using hq
  have aa:=zu.1 hb;obtain⟨k,rfl⟩:=Rl (show 0<=a by omega);have a3:k<1200:=by omega
  have HQ:=fh (show (opt I m1).bind (fun m=>nu m (k:Int) v)=opt I { m1 with Stack:=m1.Stack.set k v } from by
   show nu m1 (k:Int) v=_;unfold nu;rw[Q5 hb,Ra]
   rfl)
  have a2:=fh a1;clear hq a1 hb;go_upto_region 2 with(go_at_call 132;(with_reducible refine(a2.out.at_).mono ?_);rw[HA.out];rintro e w2 ⟨rfl,a0⟩);obtain⟨A1,c1,a8,a9,t0,t1,tf,tl,u0,u1,u2,u3,u4,u5,u6,uf,ul,a7⟩:=a0.cells;obtain⟨gs,vp,cs,x3,xl,xf,xv,xb,xc,ac,ad,a5⟩:=a0.word a3;have a4:((1200:Nat):Int)=m1.Stack.length:=by rw[a7.len]
  have ab:(k:Int)<(m1.Stack.length:Int):=by rw[<-a4];omega
  clear u3 a0;go_wp2_with(fail);exact Rz (v:=.tuple #[]) (by simp[Rd,results175,go_sem]) rfl ⟨rfl,I,_,a5 v hv,(HO.out.trans HQ.out).symm⟩
theorem zqn {bad:Bool} (h:gX B Y W QK gc gm bad m)(hn:fD n) :
  Rh prog 179 #[.pointer (Z ⟨gc,0,D⟩),J C n] W (iy (fun m=>jQ n.toNat m) B Y QK gc gm bad m):=by
 have a1:=hn.1;have a2:=hn.2;go_enter func179,ntmps179;go_wp2;go_loopw [1] (fun a wr=>∃(k:Int) (b1:Bool) (m1:fy),a=J C k/\-9223372036854775808<=k/\k<=9223372036854775807/\Hid (gX B Y wr QK gc gm b1 m1)/\Hid ((opt bad m).bind (fun m=>jQ n.toNat m)=(opt b1 m1).bind fun m=>jQ k.toNat m)) (fun a _=>(Ry a).toNat)
 case atStart=>exact⟨n,bad,m,rfl,a1,a2,fh h,fh rfl⟩
 case round=>
  obtain⟨k,b1,m1,rfl,a4,a5,hS,hO⟩:=hrel;by_cases hlt:0<k
  ·go_wp2_with(go_at_call 176;(with_reducible refine(rU hS.out).mono ?_);rintro e w1 ⟨v,b2,m2,hv,rfl,a0,a3⟩)
   go_roundw
   case measure=>exact gH
   case rel=>
    refine⟨k-1,b2,m2,by simp,by omega,by omega,fh a0,fh (hO.out.trans ?_)⟩;have h3:k.toNat=(k-1).toNat+1:=by omega
    rw[h3];exact sx (K:=fun p=>jQ (k-1).toNat p.1) a3
  ·go_wp2_with(fail)
   refine Rz (v:=.tuple #[]) (by simp[Rd,results179,go_sem]) rfl ⟨rfl,b1,m1,hS.out,?_⟩;rw[hO.out,show k.toNat=0 from by omega];cases b1 <;> rfl
theorem zrZ {bad:Bool} (h:gX B Y W QK gc gm bad m)(hn:fD n) :
  Rh prog 178 #[.pointer (Z ⟨gc,0,D⟩),J C n] W (iy (fun m=>ri n.toNat m) B Y QK gc gm bad m):=by
 have hz:fD 0:=⟨by decide,by decide⟩
 have a1:=hn.1;have a2:=hn.2;go_enter func178,ntmps178;go_wp2;go_loopw [1] (fun a wr=>∃(k:Int) (b1:Bool) (m1:fy),a=J C k/\-9223372036854775808<=k/\k<=9223372036854775807/\Hid (gX B Y wr QK gc gm b1 m1)/\Hid ((opt bad m).bind (fun m=>ri n.toNat m)=(opt b1 m1).bind fun m=>ri k.toNat m)) (fun a _=>(Ry a).toNat)
 case atStart=>exact⟨n,bad,m,rfl,a1,a2,fh h,fh rfl⟩
 case round=>
  obtain⟨k,b1,m1,rfl,a4,a5,hS,hO⟩:=hrel;by_cases hlt:0<k
  ·go_wp2_with(go_at_call 173;(with_reducible refine(zew (v:=0) hS.out hz).mono ?_);rintro e w1 ⟨rfl,b2,m2,a0,a3⟩)
   go_roundw
   case measure=>exact gH
   case rel=>
    refine⟨k-1,b2,m2,by simp,by omega,by omega,fh a0,fh (hO.out.trans ?_)⟩;have h3:k.toNat=(k-1).toNat+1:=by omega
    rw[h3];exact MT (K:=fun m=>ri (k-1).toNat m) a3
  ·go_wp2_with(fail)
   refine Rz (v:=.tuple #[]) (by simp[Rd,results178,go_sem]) rfl ⟨rfl,b1,m1,hS.out,?_⟩;rw[hO.out,show k.toNat=0 from by omega];cases b1 <;> rfl
theorem wG {P:Program} {id:Nat} {QI:Exit->Act->U->Prop} {a:Act} {w:U} {l:Q Oper} (n:Nat)(hm:P.follows .mixedOrders=M)(hB:Region.lexTailB .any l.toArray n=M)
  (h:∀ w',ft w w'->wpStill P l.toArray w' (fun a'=>wpList P l.toArray QI (l.drop n) a' w') (l.take n) a):(Code.region id l.toArray M).wp P QI a w:=
 wp_region_still_tail n hm hB (h w.drew ((ft.refl _).drew))
section
variable {es:Q Int} {m:fy} {arg:Int}
theorem I3 (h:5<=code/\code<=9):zO es m code arg=(iq m).bind fun p=>(iq p.1).bind fun q=>iD q.1 (zR code q.2 p.2):=by
 unfold zO
 iterate 13 rw[QZ (by omega)]
theorem Ln (h:5<=code/\code<=9):(o.bind fun m=>zO es m code arg)=o.bind fun m=>(iq m).bind fun p=>(iq p.1).bind fun q=>iD q.1 (zR code q.2 p.2):=by
 cases o with
 | none=>rfl
 | some m=>exact I3 h
theorem IB:(o.bind fun m=>zO es m 12 arg)=o.bind fun m=>(iD m m.Pc).bind fun m'=>(es[arg.toNat]?).map fun e=>{ m' with Pc:=e }:=rfl
theorem PR:(o.bind fun m=>zO es m 13 arg)=o.bind fun m=>(iD m m.Fp).bind fun m'=>ri arg.toNat { m' with Fp:=m'.Sp }:=rfl
theorem E1 {f:fy->Int} (hf:f m=v){K:fy->X fy}(h:opt b m1=(opt I m).bind fun m=>iD m v):((opt I m).bind fun m=>(iD m (f m)).bind K)=(opt b m1).bind K:=by
 rw[h];show (iD m (f m)).bind K=(iD m v).bind K;rw[hf]
theorem GS (h:fD a)(hn : -32768<=n/\n<=32767):mO m (Sf (a+n))=mO m (a+n):=by
 obtain⟨h1,h2⟩:=h;by_cases hb : -9223372036854775808<=a+n/\a+n<=9223372036854775807
 ·rw[rS hb.1 hb.2]
 ·have e1:fT (Sf (a+n)) 0 1199=I:=by
   cases hq:fT (Sf (a+n)) 0 1199 with
   | false=>rfl
   | true=>
    have:=zu.1 hq;unfold Sf at this;omega
  have e2:fT (a+n) 0 1199=I:=by
   cases hq:fT (a+n) 0 1199 with
   | false=>rfl
   | true=>
    have:=zu.1 hq;omega
  rw[yg e1,yg e2]
theorem GU (h:fT a 0 1199=I):nu m a v=D:=by
 unfold nu;rw[h];rfl
theorem Gj (h:fD a)(hn : -32768<=n/\n<=32767):nu m (Sf (a+n)) v=nu m (a+n) v:=by
 obtain⟨h1,h2⟩:=h;by_cases hb : -9223372036854775808<=a+n/\a+n<=9223372036854775807
 ·rw[rS hb.1 hb.2]
 ·have e1:fT (Sf (a+n)) 0 1199=I:=by
   cases hq:fT (Sf (a+n)) 0 1199 with
   | false=>rfl
   | true=>
    have:=zu.1 hq;unfold Sf at this;omega
  have e2:fT (a+n) 0 1199=I:=by
   cases hq:fT (a+n) 0 1199 with
   | false=>rfl
   | true=>
    have:=zu.1 hq;omega
  rw[GU e1,GU e2]
theorem I5 (c a b:Int):fD (zR c a b):=by
 unfold zR;split
 ·exact wU _
 ·split
  ·exact wU _
  ·split
   ·exact wU _
   ·split
    ·split <;> exact⟨by decide,by decide⟩
    ·split
     ·split <;> exact⟨by decide,by decide⟩
     ·exact⟨by decide,by decide⟩
theorem MG {b7 b8:Bool} {m7 m8:fy} {v5:Int} (h1:(opt b1 m1).map (fun m=>(m,v1))=(opt I m).bind iq)(h3:(opt b3 m3).map (fun m=>(m,v3))=(opt b1 { m1 with Sp:=m1.Fp }).bind iq)
  (h5:(opt b5 m5).map (fun m=>(m,v5))=(opt b3 { m3 with Fp:=v3 }).bind iq) (h7:opt b7 m7=(opt b5 { m5 with Pc:=v5 }).bind fun m=>jQ arg.toNat m) (h8:opt b8 m8=(opt b7 m7).bind fun m=>iD m v1) :
  opt b8 m8=(opt I m).bind fun m=>zO es m 14 arg:=by
 show _=(opt I m).bind fun m=>(iq m).bind fun p=>(iq { p.1 with Sp:=p.1.Fp }).bind fun q=>(iq { q.1 with Fp:=q.2 }).bind fun r=>(jQ arg.toNat { r.1 with Pc:=r.2 }).bind fun m'=>iD m' p.2;rw[sx (K:=fun p=>(iq { p.1 with Sp:=p.1.Fp }).bind fun q=>(iq { q.1 with Fp:=q.2 }).bind fun r=>(jQ arg.toNat { r.1 with Pc:=r.2 }).bind fun m'=>iD m' p.2) h1];have e1:((opt b1 m1).bind fun m=>(iq { m with Sp:=m.Fp }).bind fun q=>(iq { q.1 with Fp:=q.2 }).bind fun r=>(jQ arg.toNat { r.1 with Pc:=r.2 }).bind fun m'=>iD m' v1)=(opt b1 { m1 with Sp:=m1.Fp }).bind fun m=>(iq m).bind fun q=>(iq { q.1 with Fp:=q.2 }).bind fun r=>(jQ arg.toNat { r.1 with Pc:=r.2 }).bind fun m'=>iD m' v1:=by cases b1 <;> rfl
 refine Eq.trans ?_ e1.symm;rw[sx (K:=fun q=>(iq { q.1 with Fp:=q.2 }).bind fun r=>(jQ arg.toNat { r.1 with Pc:=r.2 }).bind fun m'=>iD m' v1) h3];have e3:((opt b3 m3).bind fun m=>(iq { m with Fp:=v3 }).bind fun r=>(jQ arg.toNat { r.1 with Pc:=r.2 }).bind fun m'=>iD m' v1)=(opt b3 { m3 with Fp:=v3 }).bind fun m=>(iq m).bind fun r=>(jQ arg.toNat { r.1 with Pc:=r.2 }).bind fun m'=>iD m' v1:=by cases b3 <;> rfl
 refine Eq.trans ?_ e3.symm;rw[sx (K:=fun r=>(jQ arg.toNat { r.1 with Pc:=r.2 }).bind fun m'=>iD m' v1) h5];have e5:((opt b5 m5).bind fun m=>(jQ arg.toNat { m with Pc:=v5 }).bind fun m'=>iD m' v1)=((opt b5 { m5 with Pc:=v5 }).bind fun m=>jQ arg.toNat m).bind fun m'=>iD m' v1:=by cases b5 <;> rfl
 refine Eq.trans ?_ e5.symm;rw[<-h7];exact h8
theorem Ic (h:iq m=Z (m1,v)):m1 = { m with Sp:=m.Sp+1 }:=by
 unfold iq at h;cases hc:mO m m.Sp with
 | none=>rw[hc] at h;cases h
 | some u=>
  rw[hc] at h;injection h with h
  injection h with h1 h2
  exact h1.symm
theorem Oc (n:Int):fD (Sf n):=by
 unfold Sf;exact⟨by omega,by omega⟩
theorem Od (h1:(opt b1 m1).map (fun m=>(m,(0:Int)))=(opt I m).bind iq)(hp : -4611686018427387904<=m.Pc/\m.Pc<=4611686018427387904)(ha : -32768<=arg/\arg<=32767) :
  opt b1 { m1 with Pc:=Sf (m1.Pc+arg) }=(opt I m).bind fun m=>zO es m 11 arg:=by
 have h2:(opt b1 m1).map (fun m=>(m,(0:Int)))=iq m:=h1;show _=(iq m).map fun p=>if p.2=0 then { p.1 with Pc:=p.1.Pc+arg } else p.1
 rw[<-h2];cases b1 with
 | true=>rfl
 | false=>
  have h3:=Ic h2.symm;show Z { m1 with Pc:=Sf (m1.Pc+arg) }=Z { m1 with Pc:=m1.Pc+arg };have h4:m1.Pc=m.Pc:=by rw[h3]
  rw[h4,rS (by omega) (by omega)]
theorem PQ (h1:(opt b1 m1).map (fun m=>(m,v))=(opt I m).bind iq)(hv:¬ v=0) :
  opt b1 m1=(opt I m).bind fun m=>zO es m 11 arg:=by
 have h2:(opt b1 m1).map (fun m=>(m,v))=iq m:=h1;show _=(iq m).map fun p=>if p.2=0 then { p.1 with Pc:=p.1.Pc+arg } else p.1
 rw[<-h2];cases b1 with
 | true=>rfl
 | false=>
  show Z m1=Z (if v=0 then _ else m1);rw[QZ hv]
theorem Pj (h1:(opt b1 m1).map (fun m=>(m,v))=(opt I m).bind iq) :
  opt b1 { m1 with Out:=m1.Out++[v] }=(opt I m).bind fun m=>zO es m 17 arg:=by
 have h2:(opt b1 m1).map (fun m=>(m,v))=iq m:=h1;show _=(iq m).map fun p=>{ p.1 with Out:=p.1.Out++[p.2] };rw[<-h2];cases b1 <;> rfl
theorem Pm {a:Nat} {b2 b6:Bool} {m2 m6:fy} (h1:(opt b1 m1).map (fun m=>(m,v1))=(opt I m).bind iq)(h2:opt b2 m2=(opt b1 m1).bind fun m=>jQ ((a:Int) / 16).toNat m)
  (h3:(opt b3 m3).map (fun m=>(m,v3))=(opt b2 m2).bind iq) (h5:opt b5 m5=(opt b3 { m3 with Pc:=v3 }).bind fun m=>jQ ((a:Int) % 16).toNat m) (h6:opt b6 m6=(opt b5 m5).bind fun m=>iD m v1) :
  opt b6 m6=(opt I m).bind fun m=>zO es m 16 (a:Int):=by
 show _=(opt I m).bind fun m=>(iq m).bind fun p=>(jQ (a / 16) p.1).bind fun m1=>(iq m1).bind fun r=>(jQ (a % 16) { r.1 with Pc:=r.2 }).bind fun m'=>iD m' p.2;rw[sx (K:=fun p=>(jQ (a / 16) p.1).bind fun m1=>(iq m1).bind fun r=>(jQ (a % 16) { r.1 with Pc:=r.2 }).bind fun m'=>iD m' p.2) h1];rw[show ((a:Int) / 16).toNat=a / 16 from by omega] at h2;rw[show ((a:Int) % 16).toNat=a % 16 from by omega] at h5;have e1:((opt b1 m1).bind fun m=>(jQ (a / 16) m).bind fun m1=>(iq m1).bind fun r=>(jQ (a % 16) { r.1 with Pc:=r.2 }).bind fun m'=>iD m' v1)=((opt b1 m1).bind fun m=>jQ (a / 16) m).bind fun m=>(iq m).bind fun r=>(jQ (a % 16) { r.1 with Pc:=r.2 }).bind fun m'=>iD m' v1:=by cases b1 <;> rfl
 refine Eq.trans ?_ e1.symm;rw[<-h2,sx (K:=fun r=>(jQ (a % 16) { r.1 with Pc:=r.2 }).bind fun m'=>iD m' v1) h3];have e3:((opt b3 m3).bind fun m=>(jQ (a % 16) { m with Pc:=v3 }).bind fun m'=>iD m' v1)=((opt b3 { m3 with Pc:=v3 }).bind fun m=>jQ (a % 16) m).bind fun m'=>iD m' v1:=by cases b3 <;> rfl
 refine Eq.trans ?_ e3.symm;rw[<-h5];exact h6
end
theorem lQ.app {W7:U} {bad:Bool} {A7:X Ri} {c7:Nat} {S7:Q Nat} (h:lQ B Y W QK gc gm bad m A c S Ao co So)
  (hon:fw So W W7) (hH:Has (zr.sl 3) W7 [G A7 (m.Out.length+1) c7] (m.Out++[v]) S7) (hS:∀ b∈S7,b∈So∨W.heap.size<=b) :
  lQ B Y (W7.setCell ⟨gm,4,D⟩ (G A7 (m.Out.length+1) c7)) (QK+1) gc gm bad { m with Out:=m.Out++[v] } A c S A7 c7 S7:=by
 have a6:=(blt h.iF.core)
 have a7:=(blt h.iF.jw)
 have a1:(m.Out++[v]).length=m.Out.length+1:=by simp
 have a0:fw [gm] W7 (W7.setCell ⟨gm,4,D⟩ (G A7 (m.Out.length+1) c7)):=(fw.refl _ _).setCell (p:=⟨gm,4,D⟩) (by simp) _
 have a4:gm∉S7:=fun hm=>by
  rcases hS gm hm with h1 | h1
  ·exact h.iF.cs.2.2.2 h1
  ·omega
 have a5:gc∉S7:=fun hm=>by
  rcases hS gc hm with h1 | h1
  ·exact h.iF.cs.2.1 h1
  ·omega
 have a8:=h.fx.size;have a2:=(hon.block gc a6 h.iF.cs.2.1).trans h.iF.core;have a3:=(hon.block gm a7 h.iF.cs.2.2.2).trans h.iF.jw;refine⟨⟨(a0.block gc (blt a2) (by simpa using h.iF.cm)).trans a2,?_,?_,?_,?_,h.iF.cm,⟨h.iF.cs.1,a5,h.iF.cs.2.2.1,a4⟩⟩,⟨h.ok.len,by rw[a1];have:=h.ok.out;omega,h.ok.pc,h.ok.sp,h.ok.fp,h.ok.st,h.ok.va⟩,?_,h.lc,h.lm,h.ls,?_,?_⟩
 ·rw[a1]
  exact jb (i:=4) a3 rfl
 ·exact(h.iF.stack.fJ hon (fun x hx=>h.iF.jS x hx)).fJ a0 (fun x hx hm=>h.iF.cs.2.2.1 (by simp at hm;exact hm ▸ hx))
 ·rw[a1]
  exact hH.fJ a0 (fun x hx hm=>a4 (by simp at hm;exact hm ▸ hx))
 ·intro x hx hm
  rcases hS x hm with h1 | h1
  ·exact h.iF.jS x hx h1
  ·have:=h.iF.stack.lt x hx
   omega
 ·exact a0.fx (hon.fx h.fx h.lo) (fun b hb=>by simp at hb;exact hb ▸ h.lm)
 ·intro b hb
  rcases hS b hb with h1 | h1
  ·exact h.lo b h1
  ·omega
 ·intro p hp
  obtain⟨h1,h2,h3,h4,h5⟩:=h.kb p hp;have h6:=(hon.block p.1 (blt h1) h5).trans h1;refine⟨(a0.block p.1 (blt h6) (by simpa using h3)).trans h6,h2,h3,h4,fun hm=>?_⟩;rcases hS p.1 hm with h7 | h7
  ·exact h5 h7
  ·have:=(blt h1)
   omega
theorem gX.grow {bad:Bool} (h:gX B Y W QK gc gm bad m):ft Y W:=by
 obtain⟨A,c,S,Ao,co,So,h⟩:=h;exact h.fx
end Go.Proofs.YthgbglbaemelhaaGreat
