/-
  PART.
-/
import Derived.Test.YthgbglbaemelhaaGreatM8LawThreadsApart
import Derived.StillTailTactics
set_option linter.unusedVariables false
set_option linter.unusedSimpArgs false
set_option maxRecDepth 100000
set_option maxHeartbeats 8000000
namespace Go.Proofs.YthgbglbaemelhaaGreat
open Value renaming slice->G,int->J,bool->H
open IntKind renaming i64->Z,wrap->Rg
open Option renaming none->C,some->D
open Obj renaming cells->F
open Bool renaming false->I,true->M
open Go renaming World->U,results->Rv,Calls->RD,Addr->RJ,TypeId->R5,yielded->Th
open World renaming cell?->Rb,frozen?->Rx
open _root_.Int renaming toNat_natCast->Ry
open RowKit renaming intOf->RS,wrap64->SN
open List renaming take_succ_cons->RZ,take_zero->SH
open Region renaming wanted->RV,ready->Sn,noSelect->TZ,free->Wu
open Tryz
open Go.RowKit
variable {A A7 Ao:X RJ}{B B':Q (Nat × Obj)}{Ra c c7 co g gc gm:Nat}{S S7 So:Q Nat}{W W7 Y w:U}{a code n v v1 v3:Int}{b b1 b2 b3 b5 bad':Bool}{cs:Array Value}{m m' m1 m2 m3 m5:fv}{o:X fv}{t:R5}
theorem CW:∀(imgs:Q gv)(bases:Q Int)(e:Int)(k:Nat),jF imgs bases e k=(-1,-1)∨∃(j:Nat)(x:gv)(b:Int),imgs[j]?=D x/\bases[j]?=D b/\jF imgs bases e k=(((k+j:Nat):Int),e-b)/\b<=e/\e<b+x.Code.size:=by
 intro imgs;induction imgs with
 | nil=>intro bases e k;exact .inl (E6 bases e k)
 | cons x r ih=>
  intro bases e k;cases bases with
  | nil=>exact .inl rfl
  | cons b bs=>
   have h:=Dt (imgs:=x::r) (bases:=b::bs) (k:=0) (x:=x) (b:=b) rfl rfl e;by_cases hq:b<=e/\e<b+x.Code.size
   ·refine .inr ⟨0,x,b,rfl,rfl,?_,hq.1,hq.2⟩
    unfold jF;rw[Rs hq];rfl
   ·have hs:jF (x::r) (b::bs) e k=jF r bs e (k+1):=by
     rw[jF,Ro hq]
    rcases ih bs e (k+1) with h1 | ⟨j,y,c,h1,h2,h3,h4,h5⟩
    ·exact .inl (hs.trans h1)
    ·exact .inr ⟨j+1,y,c,h1,h2,by rw[hs,h3];simp;omega,h4,h5⟩
def lD (s:gk)(a:Int):tM:=
 if (loc s a).1<0 then ⟨0,0,0,I⟩ else
  match s.fo[(loc s a).1.toNat]? with
  | some i=>je i.Code (loc s a).2
  | none=>⟨0,0,0,I⟩
theorem zv8 {s:gk} {A0 A1 A2:X RJ} {c0 c1 c2:Nat} (h0:(iG.sl 103).R w w.heap.size [G A0 s.fo.length c0] s.fo)(h1:(zr.sl 3).R w w.heap.size [G A1 s.ft.length c1] s.ft)
  (hl:s.fo.length=s.ft.length) (hst:∀ x∈s.fo,x.Code.size<=1099511627776) (hbs:∀ b∈s.ft,fP b 1 1000000=M) (ha:fE a) :
  RD prog 84 #[.agg #[G A0 s.fo.length c0,G A1 s.ft.length c1,G A2 s.ii.length c2],J Z a] w (BF (lD s a) w):=by
 obtain⟨_,_,a7,aj,ae⟩:=kJ h0;injection a7 with e1 e2 e3
 subst e1 e3;clear e2;have a3:=fh hl;have a4:=fh hst;have a2:=fh hbs;rcases CW s.fo s.ft a 0 with h | ⟨j,x,b,hj,hb,h,ab,ac⟩
 ·have HL:=fh h
  have HQ:=fh (show lD s a=⟨0,0,0,I⟩ from by unfold lD loc;rw[h];rfl);clear h hl hst hbs;go_enter func84,ntmps84;go_wp2_with(go_at_call 82;(with_reducible refine(zlv (imgs:=s.fo) (bases:=s.ft) (es:=s.ii) (e:=a) (Ty.up _ h0 gG) (Ty.up _ h1 gG) a3.out a4.out a2.out ha).mono ?_);rw[HL.out];rintro e w1 ⟨rfl,aa,d1,rfl⟩);rw[HQ.out];exact Rj (v:=.tuple #[.agg #[J Z 0,J Z 0],J Z 0,H I]) (by simp[Rv,results84,go_sem]) rfl ⟨rfl,gG⟩
 ·rw[RF] at h
  have HL:=fh h;have a6:j<s.fo.length:=(Rd.1 hj).1;obtain⟨g,ak,y,Ax,cx,rfl,af,a0,m0,m1,p0,ai⟩:=qI h0 a6;have a8:y=x:=by rw[hj] at a0;injection a0 with a0;exact a0.symm
  subst a8;have a9:y.Code.size<=1099511627776:=hst y (Rt hj);have ad:=zu.1 (hbs b (Rt hb));have a5:fE (a-b):=⟨by have:=ha.1;omega,by have:=ha.2;omega⟩
  have a1:lD s a=je y.Code (a-b):=by
   unfold lD loc;rw[h];simp only;rw[Ro K9,Ry,hj]
  have ag:¬ ((j:Int)<0):=K9;have ah:(j:Int)<(s.fo.length:Int):=K9;obtain⟨r,hr⟩:∃ r,je y.Code (a-b)=r:=⟨_,rfl⟩
  rw[hr] at a1;have HQ:=fh a1;have HR:=fh hr;clear h hj hb a0 hr a1 hl hst hbs;go_enter func84,ntmps84
  go_wp2_with(first
   | (go_at_call 82;(with_reducible refine(zlv (imgs:=s.fo) (bases:=s.ft) (es:=s.ii) (e:=a) (Ty.up _ h0 gG) (Ty.up _ h1 gG) a3.out a4.out a2.out ha).mono ?_);rw[HL.out];rintro e w1 ⟨rfl,aa,d1,rfl⟩)
   | (go_at_call 135;(with_reducible refine(zh4 y.Code (a-b) _ a9 a5).mono ?_);rw[HR.out];rintro e w2 ⟨rfl,al,d2,rfl⟩))
  rw[HQ.out];exact Rj (v:=.tuple #[.agg #[J Z r.code,J Z r.arg],J Z r.n,H r.ok]) (by simp[Rv,results84,go_sem]) rfl ⟨rfl,gG⟩
structure ox (W:U)(gc gm:Nat)(bad:Bool)(m:fv)(A:X RJ)(c:Nat)(S:Q Nat)(Ao:X RJ)(co:Nat)(So:Q Nat):Prop where
 WA:W.heap[gc]?=D (F #[.pointer (D ⟨gm,0,C⟩),H bad] 191 (0,0))
 jD:W.heap[gm]?=D (F #[J Z m.Pc,J Z m.Sp,J Z m.Fp,G A m.pm.length c,G Ao m.If.length co,J Z m.rc,J Z m.Value] 41 (0,0))
 stack:Has (zr.sl 3) W [G A m.pm.length c] m.pm S
 out:Has (zr.sl 3) W [G Ao m.If.length co] m.If So
 jj:∀ b∈S,b∉So
 cm:gc≠gm
 cs:gc∉S/\gc∉So/\gm∉S/\gm∉So
theorem ox.rj {bad:Bool} (h:ox W gc gm bad m A c S Ao co So)(b:Bool):ox (W.setCell ⟨gc,1,C⟩ (H b)) gc gm b m A c S Ao co So:=by
 have ho:fx [gc] W (W.setCell ⟨gc,1,C⟩ (H b)):=(fx.refl _ _).setCell (p:=⟨gc,1,C⟩) II _;refine⟨jd (i:=1) (v:=H b) h.WA rfl,(ho.block gm (blt h.jD) (by simpa using Ne.symm h.cm)).trans h.jD,h.stack.fJ ho (fun x hx hm=>?_),h.out.fJ ho (fun x hx hm=>?_),h.jj,h.cm,h.cs⟩
 ·simp at hm;exact h.cs.1 (hm ▸ hx)
 ·simp at hm;exact h.cs.2.1 (hm ▸ hx)
theorem zxJ {bad:Bool} (h:ox W gc gm bad m A c S Ao co So) :
  RD prog 132 #[.pointer (D ⟨gc,0,C⟩),J Z a] W fun r W'=>r=.returned (H (!(bad || !fP a 0 1199)))/\ox W' gc gm (bad || !fP a 0 1199) m A c S Ao co So/\fx [gc] W W':=by
 obtain⟨y0,y1,a0,a1,yl⟩:=jT h.WA;obtain⟨b,hb⟩:∃ b,fP a 0 1199=b:=⟨_,rfl⟩
 rw[hb];have HB:=fh hb;have HC:=fh h;clear hb h;cases b with
 | true=>
  go_enter func132,ntmps132;go_wp2_with(go_at_call 38;(with_reducible refine(lW _ _ _ _).mono ?_);rw[HB.out];rintro e w1 ⟨rfl,rfl⟩);go_ret;exact⟨II,by simpa using HC.out,fx.refl _ _⟩
 | false=>
  go_enter func132,ntmps132;go_wp2_with(go_at_call 38;(with_reducible refine(lW _ _ _ _).mono ?_);rw[HB.out];rintro e w1 ⟨rfl,rfl⟩);go_ret;exact⟨II,by simpa using HC.out.rj M,(fx.refl _ _).setCell (p:=⟨gc,1,C⟩) II _⟩
theorem ox.word {bad:Bool} (h:ox W gc gm bad m A c S Ao co So){k:Nat}(hk:k<m.pm.length) :
  ∃ gs v,A=D ⟨gs,0,C⟩/\gs∈S/\gs<W.heap.size/\(∀ j,Rx W ⟨gs,j,C⟩=I)/\m.pm[k]?=D v/\fE v/\Rb W ⟨gs,k,C⟩=D (J Z v)/\
   ∀ u,fE u->ox (W.setCell ⟨gs,k,C⟩ (J Z u)) gc gm bad { m with pm:=m.pm.set k u } A c S Ao co So/\fx S W (W.setCell ⟨gs,k,C⟩ (J Z u)):=by
 obtain⟨v,hv⟩:∃ v,m.pm[k]?=D v:=⟨_,Rn hk⟩
 obtain⟨gs,ec,Sc,hA,a5,a6,a9,a8,aa,hO,a4,a0,a1,_⟩:=qh h.stack.1 h.stack.2 hv;obtain⟨rfl,b1,b2,rfl⟩:=hO;have a2:=a0 0 _ rfl;rw[show k*zr.size+0=k from by show k*1+0=k;omega] at a2;refine⟨gs,v,hA,a5,a6,a4,hv,⟨b1,b2⟩,a2,fun u hu=>?_⟩;have hp:=a1 0 (J Z u) u qo rfl ⟨rfl,hu.1,hu.2,rfl⟩;rw[show k*zr.size+0=k from by show k*1+0=k;omega] at hp;have a3:gc∉S:=h.cs.1;have a7:gm∉S:=h.cs.2.2.1;refine⟨⟨(hp.2.block gc (blt h.WA) a3).trans h.WA,?_,?_,h.out.fJ hp.2 (fun x hx hm=>h.jj x hm hx),h.jj,h.cm,h.cs⟩,hp.2⟩
 ·have hm:=(hp.2.block gm (blt h.jD) a7).trans h.jD
  simpa only[RP] using hm
 ·have h9:Has (zr.sl 3) (W.setCell ⟨gs,k,C⟩ (J Z u)) [G A m.pm.length c] (m.pm.set k u) S:=⟨hp.1,h.stack.2⟩
  simpa only[RP] using h9
structure kX (Ra:Nat)(m:fv):Prop where
 len:m.pm.length=1200
 out:m.If.length<=Ra
 pc:fE m.Pc
 sp:fE m.Sp
 fp:fE m.Fp
 st:fE m.rc
 va:fE m.Value
structure lX (B:Q (Nat × Obj))(Y W:U)(Ra gc gm:Nat)(bad:Bool)(m:fv)(A:X RJ)(c:Nat)(S:Q Nat)(Ao:X RJ)(co:Nat)(So:Q Nat):Prop where
 iF:ox W gc gm bad m A c S Ao co So
 ok:kX Ra m
 fy:fu Y W
 lc:Y.heap.size<=gc
 lm:Y.heap.size<=gm
 ls:∀ b∈S,Y.heap.size<=b
 lo:∀ b∈So,Y.heap.size<=b
 kb:∀ p∈B,W.heap[p.1]?=D p.2/\p.1≠gc/\p.1≠gm/\p.1∉S/\p.1∉So
def hJ (B:Q (Nat × Obj))(Y W:U)(Ra gc gm:Nat)(bad:Bool)(m:fv):Prop:=
 ∃ A c S Ao co So,lX B Y W Ra gc gm bad m A c S Ao co So
def Ww (bad:Bool)(m:fv):X fv:=if bad=M then C else D m
theorem ox.num {bad:Bool} (h:ox W gc gm bad m A c S Ao co So){i:Nat}{v:Value}(hs:m'.pm=m.pm)(ho:m'.If=m.If)
  (hrow:(#[J Z m.Pc,J Z m.Sp,J Z m.Fp,G A m.pm.length c,G Ao m.If.length co,J Z m.rc,J Z m.Value]:Array Value).setIfInBounds i v=#[J Z m'.Pc,J Z m'.Sp,J Z m'.Fp,G A m'.pm.length c,G Ao m'.If.length co,J Z m'.rc,J Z m'.Value]) :
  ox (W.setCell ⟨gm,i,C⟩ v) gc gm bad m' A c S Ao co So:=by
 have a0:fx [gm] W (W.setCell ⟨gm,i,C⟩ v):=(fx.refl _ _).setCell (p:=⟨gm,i,C⟩) (by simp) _;refine⟨(a0.block gc (blt h.WA) (by simpa using h.cm)).trans h.WA,jd (i:=i) (v:=v) h.jD hrow,?_,?_,h.jj,h.cm,h.cs⟩
 ·rw[hs]
  exact h.stack.fJ a0 (fun x hx hm=>by simp at hm;exact h.cs.2.2.1 (hm ▸ hx))
 ·rw[ho]
  exact h.out.fJ a0 (fun x hx hm=>by simp at hm;exact h.cs.2.2.2 (hm ▸ hx))
theorem lX.only {W':U} {bad:Bool} {L:Q Nat} (h:lX B Y W Ra gc gm bad m A c S Ao co So)(hc:ox W' gc gm bad' m' A c S Ao co So)(hk:kX Ra m')(ho:fx L W W')(hL:∀ b∈L,b=gc∨b=gm∨b∈S∨b∈So):lX B Y W' Ra gc gm bad' m' A c S Ao co So:=
 ⟨hc,hk,ho.fy h.fy (fun b hb=>by
  rcases hL b hb with rfl | rfl | h1 | h1
  ·exact h.lc
  ·exact h.lm
  ·exact h.ls b h1
  ·exact h.lo b h1),h.lc,h.lm,h.ls,h.lo,fun p hp=>by
  obtain⟨h1,h2,h3,h4,h5⟩:=h.kb p hp;refine⟨(ho.block p.1 (blt h1) (fun hm=>?_)).trans h1,h2,h3,h4,h5⟩;rcases hL p.1 hm with h6 | h6 | h6 | h6
  ·exact h2 h6
  ·exact h3 h6
  ·exact h4 h6
  ·exact h5 h6⟩
theorem hJ.kept {bad:Bool} {o:Obj} (h:hJ B Y W Ra gc gm bad m)(hp:(g,o)∈B):W.heap[g]?=D o:=by
 obtain⟨A,c,S,Ao,co,So,h⟩:=h;exact(h.kb (g,o) hp).1
theorem hJ.jb {bad:Bool} (h:hJ B Y W Ra gc gm bad m):hJ ((W.heap.size,F cs t (0,0))::B) Y (W.alloc (F cs t)) Ra gc gm bad m:=by
 obtain⟨A,c,S,Ao,co,So,h⟩:=h;have hg:fu W (W.alloc (F cs t)):=(fu.refl _).alloc _;refine⟨A,c,S,Ao,co,So,⟨zj h.iF.WA hg,zj h.iF.jD hg,h.iF.stack.fy hg,h.iF.out.fy hg,h.iF.jj,h.iF.cm,h.iF.cs⟩,h.ok,h.fy.trans hg,h.lc,h.lm,h.ls,h.lo,fun p hp=>?_⟩;rcases RO.1 hp with rfl | hp
 ·refine⟨Re _ _,?_,?_,fun hm=>?_,fun hm=>?_⟩
  ·have:=(blt h.iF.WA)
   simp only[ne_eq];omega
  ·have:=(blt h.iF.jD)
   simp only[ne_eq];omega
  ·have:=h.iF.stack.lt _ hm
   simp only at this;omega
  ·have:=h.iF.out.lt _ hm
   simp only at this;omega
 ·obtain⟨h1,h2⟩:=h.kb p hp
  exact⟨zj h1 hg,h2⟩
theorem hJ.drop {bad:Bool} (h:hJ B Y W Ra gc gm bad m)(hs:∀ p∈B',p∈B):hJ B' Y W Ra gc gm bad m:=by
 obtain⟨A,c,S,Ao,co,So,h⟩:=h;exact⟨A,c,S,Ao,co,So,h.iF,h.ok,h.fy,h.lc,h.lm,h.ls,h.lo,fun p hp=>h.kb p (hs p hp)⟩
theorem hJ.cells {bad:Bool} (h:hJ B Y W Ra gc gm bad m):∃ A c Ao co,
  Rb W ⟨gc,0,C⟩=D (.pointer (D ⟨gm,0,C⟩))/\Rb W ⟨gc,1,C⟩=D (H bad)/\(∀ j,Rx W ⟨gc,j,C⟩=I)/\gc<W.heap.size/\
  Rb W ⟨gm,0,C⟩=D (J Z m.Pc)/\Rb W ⟨gm,1,C⟩=D (J Z m.Sp)/\Rb W ⟨gm,2,C⟩=D (J Z m.Fp)/\Rb W ⟨gm,3,C⟩=D (G A m.pm.length c)/\Rb W ⟨gm,4,C⟩=D (G Ao m.If.length co)/\Rb W ⟨gm,5,C⟩=D (J Z m.rc)/\Rb W ⟨gm,6,C⟩=D (J Z m.Value)/\(∀ j,Rx W ⟨gm,j,C⟩=I)/\gm<W.heap.size/\kX Ra m:=by
 obtain⟨A,c,S,Ao,co,So,h⟩:=h;obtain⟨y0,y1,a0,a1,yl⟩:=jT h.iF.WA;obtain⟨z0,z1,z2,z3,z4,z5,z6,zf,zl⟩:=zK h.iF.jD;exact⟨A,c,Ao,co,y0,y1,fun j=>by simp[Rx,h.iF.WA],yl,z0,z1,z2,z3,z4,z5,z6,zf,zl,h.ok⟩
theorem hJ.num {B:Q (Nat × Obj)}{Y W:U}{Ra gc gm:Nat}{bad:Bool}{m m':fv}(h:hJ B Y W Ra gc gm bad m){i:Nat}{v:Value}(hs:m'.pm=m.pm)(ho:m'.If=m.If)(hk:kX Ra m')
  (hrow:∀ x y,(#[J Z m.Pc,J Z m.Sp,J Z m.Fp,x,y,J Z m.rc,J Z m.Value]:Array Value).setIfInBounds i v=#[J Z m'.Pc,J Z m'.Sp,J Z m'.Fp,x,y,J Z m'.rc,J Z m'.Value]):hJ B Y (W.setCell ⟨gm,i,C⟩ v) Ra gc gm bad m':=by
 obtain⟨A,c,S,Ao,co,So,h⟩:=h;refine⟨A,c,S,Ao,co,So,h.only (h.iF.num hs ho (by rw[hrow,hs,ho])) hk (L:=[gm]) ((fx.refl _ _).setCell (p:=⟨gm,i,C⟩) (by simp) _) (fun b hb=>by simp at hb;exact .inr (.inl hb))⟩
theorem hJ.bad {B:Q (Nat × Obj)}{Y W:U}{Ra gc gm:Nat}{bad:Bool}{m:fv}(h:hJ B Y W Ra gc gm bad m)(b:Bool):hJ B Y (W.setCell ⟨gc,1,C⟩ (H b)) Ra gc gm b m:=by
 obtain⟨A,c,S,Ao,co,So,h⟩:=h;exact⟨A,c,S,Ao,co,So,h.only (h.iF.rj b) h.ok (L:=[gc]) ((fx.refl _ _).setCell (p:=⟨gc,1,C⟩) II _) (fun b hb=>by simp at hb;exact .inl hb)⟩
theorem hJ.word {B:Q (Nat × Obj)}{Y W:U}{Ra gc gm:Nat}{bad:Bool}{m:fv}(h:hJ B Y W Ra gc gm bad m){k:Nat}(hk:k<1200) :
  ∃ gs v c,Rb W ⟨gm,3,C⟩=D (G (D ⟨gs,0,C⟩) m.pm.length c)/\gs<W.heap.size/\(∀ j,Rx W ⟨gs,j,C⟩=I)/\m.pm[k]?=D v/\fE v/\Rb W ⟨gs,k,C⟩=D (J Z v)/\gs≠gc/\gs≠gm/\
   ∀ u,fE u->hJ B Y (W.setCell ⟨gs,k,C⟩ (J Z u)) Ra gc gm bad { m with pm:=m.pm.set k u }:=by
 obtain⟨A,c,S,Ao,co,So,h⟩:=h;obtain⟨gs,v,rfl,hS,hl,hf,hv,hb,hc,a0⟩:=h.iF.word (k:=k) (by rw[h.ok.len];exact hk);obtain⟨z0,z1,z2,z3,z4,z5,z6,zf,zl⟩:=zK h.iF.jD;refine⟨gs,v,c,z3,hl,hf,hv,hb,hc,fun e=>h.iF.cs.1 (e ▸ hS),fun e=>h.iF.cs.2.2.1 (e ▸ hS),fun u hu=>?_⟩;obtain⟨h1,h2⟩:=a0 u hu;exact⟨_,c,S,Ao,co,So,h.only h1 ⟨by simpa using h.ok.len,h.ok.out,h.ok.pc,h.ok.sp,h.ok.fp,h.ok.st,h.ok.va⟩ h2 (fun b hb=>.inr (.inr (.inl hb)))⟩
theorem hJ.at_ {bad:Bool} (h:hJ B Y W Ra gc gm bad m) :
  RD prog 132 #[.pointer (D ⟨gc,0,C⟩),J Z a] W fun r W'=>r=.returned (H (!(bad || !fP a 0 1199)))/\hJ B Y W' Ra gc gm (bad || !fP a 0 1199) m:=by
 obtain⟨A,c,S,Ao,co,So,h⟩:=h;refine(zxJ h.iF (a:=a)).mono ?_;rintro r W' ⟨h1,h2,h3⟩;exact⟨h1,A,c,S,Ao,co,So,h.only h2 h.ok h3 (fun b hb=>by simp at hb;exact .inl hb)⟩
theorem hJ.DO {bad:Bool} (h:hJ B Y W Ra gc gm bad m) :
  RD prog 132 #[.pointer (D ⟨gc,0,C⟩),J Z a] W fun r W'=>r=.returned (H (!(bad || !fP a 0 1199)))/\hJ B Y W' Ra gc gm (bad || !fP a 0 1199) m/\∀ i v,Rb W ⟨gm,i,C⟩=D v->Rb W' ⟨gm,i,C⟩=D v:=by
 obtain⟨A,c,S,Ao,co,So,h⟩:=h;refine(zxJ h.iF (a:=a)).mono ?_;rintro r W' ⟨h1,h2,h3⟩;exact⟨h1,⟨A,c,S,Ao,co,So,h.only h2 h.ok h3 (fun b hb=>by simp at hb;exact .inl hb)⟩,fun i v hv=>(h3.cell (blt h.iF.jD) (by simpa using Ne.symm h.iF.cm) i).trans hv⟩
theorem Gi {K:fv->X fv} (h:Ww b m=o.bind fun m=>zP m v):(o.bind fun m=>(zP m v).bind K)=(Ww b m).bind K:=by
 rw[h,Option.bind_assoc]
theorem oO {γ:Type} {K:fv × Int->X γ} (h:(Ww b m).map (fun m=>(m,v))=o.bind gX):(o.bind fun m=>(gX m).bind K)=(Ww b m).bind fun m=>K (m,v):=by
 rw[<-Option.bind_assoc,<-h];cases Ww b m <;> rfl
theorem xz (hb:fP a 0 1199=M)(h:m.pm[a.toNat]?=D v):ll m a=D v:=by
 unfold ll;rw[Rs hb,h]
theorem sG (hb:fP a 0 1199=I):ll m a=C:=by
 unfold ll;rw[hb];rfl
theorem tF {o0 o1 o2 o3 o4 o5 o6 o7:Value} {e:R5} (h:W.heap[g]?=D (F #[o0,o1,o2,o3,o4,o5,o6,o7] e (0,0))) :
  Rb W ⟨g,0,C⟩=D o0/\Rb W ⟨g,1,C⟩=D o1/\Rb W ⟨g,2,C⟩=D o2/\Rb W ⟨g,3,C⟩=D o3/\Rb W ⟨g,4,C⟩=D o4/\Rb W ⟨g,5,C⟩=D o5/\Rb W ⟨g,6,C⟩=D o6/\Rb W ⟨g,7,C⟩=D o7/\(∀ j,Rx W ⟨g,j,C⟩=I)/\g<W.heap.size:=by
 refine⟨?_,?_,?_,?_,?_,?_,?_,?_,fun j=>by simp[Rx,h],(blt h)⟩
 all_goals
  rw[Sw W g _ _ _ (0,0) h]
  rfl
structure pv (B:Q (Nat × Obj))(Y W:U)(Ra gc:Nat)(bad:Bool)(m:fv)(A:X RJ)(c:Nat)(S:Q Nat)(Ao:X RJ)(co:Nat)(So:Q Nat):Prop where
 WA:W.heap[gc]?=D (F #[J Z m.Pc,J Z m.Sp,J Z m.Fp,G A m.pm.length c,G Ao m.If.length co,J Z m.rc,J Z m.Value,H bad] 140 (0,0))
 stack:Has (zr.sl 3) W [G A m.pm.length c] m.pm S
 out:Has (zr.sl 3) W [G Ao m.If.length co] m.If So
 jj:∀ b∈S,b∉So
 cs:gc∉S/\gc∉So
 ok:kX Ra m
 fy:fu Y W
 lc:Y.heap.size<=gc
 ls:∀ b∈S,Y.heap.size<=b
 lo:∀ b∈So,Y.heap.size<=b
 kb:∀ p∈B,W.heap[p.1]?=D p.2/\p.1≠gc/\p.1∉S/\p.1∉So
def ie (B:Q (Nat × Obj))(Y W:U)(Ra gc:Nat)(bad:Bool)(m:fv):Prop:=
 ∃ A c S Ao co So,pv B Y W Ra gc bad m A c S Ao co So
theorem ie.cells {bad:Bool} (h:ie B Y W Ra gc bad m):∃ A c Ao co,
  Rb W ⟨gc,0,C⟩=D (J Z m.Pc)/\Rb W ⟨gc,1,C⟩=D (J Z m.Sp)/\Rb W ⟨gc,2,C⟩=D (J Z m.Fp)/\Rb W ⟨gc,3,C⟩=D (G A m.pm.length c)/\Rb W ⟨gc,4,C⟩=D (G Ao m.If.length co)/\Rb W ⟨gc,5,C⟩=D (J Z m.rc)/\Rb W ⟨gc,6,C⟩=D (J Z m.Value)/\Rb W ⟨gc,7,C⟩=D (H bad)/\(∀ j,Rx W ⟨gc,j,C⟩=I)/\gc<W.heap.size/\kX Ra m:=by
 obtain⟨A,c,S,Ao,co,So,h⟩:=h;obtain⟨z0,z1,z2,z3,z4,z5,z6,z7,zf,zl⟩:=tF h.WA;exact⟨A,c,Ao,co,z0,z1,z2,z3,z4,z5,z6,z7,zf,zl,h.ok⟩
theorem ie.num {bad:Bool} (h:ie B Y W Ra gc bad m){i:Nat}{v:Value}(hs:m'.pm=m.pm)(ho:m'.If=m.If)(hk:kX Ra m')
  (hrow:∀ x y,(#[J Z m.Pc,J Z m.Sp,J Z m.Fp,x,y,J Z m.rc,J Z m.Value,H bad]:Array Value).setIfInBounds i v=#[J Z m'.Pc,J Z m'.Sp,J Z m'.Fp,x,y,J Z m'.rc,J Z m'.Value,H bad']):ie B Y (W.setCell ⟨gc,i,C⟩ v) Ra gc bad' m':=by
 obtain⟨A,c,S,Ao,co,So,h⟩:=h;have a0:fx [gc] W (W.setCell ⟨gc,i,C⟩ v):=(fx.refl _ _).setCell (p:=⟨gc,i,C⟩) (by simp) _;refine⟨A,c,S,Ao,co,So,jd (i:=i) (v:=v) h.WA (by rw[hrow,hs,ho]),?_,?_,h.jj,h.cs,hk,a0.fy h.fy (fun b hb=>by simp at hb;exact hb ▸ h.lc),h.lc,h.ls,h.lo,fun p hp=>?_⟩
 ·rw[hs]
  exact h.stack.fJ a0 (fun x hx hm=>by simp at hm;exact h.cs.1 (hm ▸ hx))
 ·rw[ho]
  exact h.out.fJ a0 (fun x hx hm=>by simp at hm;exact h.cs.2 (hm ▸ hx))
 ·obtain⟨h1,h2,h3⟩:=h.kb p hp
  exact⟨(a0.block p.1 (blt h1) (by simpa using h2)).trans h1,h2,h3⟩
theorem ie.kept {bad:Bool} {o:Obj} (h:ie B Y W Ra gc bad m)(hp:(g,o)∈B):W.heap[g]?=D o:=by
 obtain⟨A,c,S,Ao,co,So,h⟩:=h;exact(h.kb (g,o) hp).1
theorem ie.fy {B:Q (Nat × Obj)}{Y W W':U}{Ra gc:Nat}{bad:Bool}{m:fv}(h:ie B Y W Ra gc bad m)(hg:fu W W'):ie B Y W' Ra gc bad m:=by
 obtain⟨A,c,S,Ao,co,So,h⟩:=h;exact⟨A,c,S,Ao,co,So,zj h.WA hg,h.stack.fy hg,h.out.fy hg,h.jj,h.cs,h.ok,h.fy.trans hg,h.lc,h.ls,h.lo,fun p hp=>⟨zj (h.kb p hp).1 hg,(h.kb p hp).2⟩⟩
theorem ie.jb {bad:Bool} (h:ie B Y W Ra gc bad m):ie ((W.heap.size,F cs t (0,0))::B) Y (W.alloc (F cs t)) Ra gc bad m:=by
 obtain⟨A,c,S,Ao,co,So,h⟩:=h;have hg:fu W (W.alloc (F cs t)):=(fu.refl _).alloc _;refine⟨A,c,S,Ao,co,So,zj h.WA hg,h.stack.fy hg,h.out.fy hg,h.jj,h.cs,h.ok,h.fy.trans hg,h.lc,h.ls,h.lo,fun p hp=>?_⟩;rcases RO.1 hp with rfl | hp
 ·refine⟨Re _ _,?_,fun hm=>?_,fun hm=>?_⟩
  ·have:=(blt h.WA)
   simp only[ne_eq];omega
  ·have:=h.stack.lt _ hm
   simp only at this;omega
  ·have:=h.out.lt _ hm
   simp only at this;omega
 ·obtain⟨h1,h2⟩:=h.kb p hp
  exact⟨zj h1 hg,h2⟩
theorem ie.drop {bad:Bool} (h:ie B Y W Ra gc bad m)(hs:∀ p∈B',p∈B):ie B' Y W Ra gc bad m:=by
 obtain⟨A,c,S,Ao,co,So,h⟩:=h;exact⟨A,c,S,Ao,co,So,h.WA,h.stack,h.out,h.jj,h.cs,h.ok,h.fy,h.lc,h.ls,h.lo,fun p hp=>h.kb p (hs p hp)⟩
theorem ie.word {bad:Bool} (h:ie B Y W Ra gc bad m){k:Nat}(hk:k<1200) :
  ∃ gs v c,Rb W ⟨gc,3,C⟩=D (G (D ⟨gs,0,C⟩) m.pm.length c)/\gs<W.heap.size/\(∀ j,Rx W ⟨gs,j,C⟩=I)/\m.pm[k]?=D v/\fE v/\Rb W ⟨gs,k,C⟩=D (J Z v)/\gs≠gc/\
   ∀ u,fE u->ie B Y (W.setCell ⟨gs,k,C⟩ (J Z u)) Ra gc bad { m with pm:=m.pm.set k u }:=by
 obtain⟨A,c,S,Ao,co,So,h⟩:=h;obtain⟨v,hv⟩:∃ v,m.pm[k]?=D v:=⟨_,Rn (by rw[h.ok.len];exact hk)⟩
 obtain⟨gs,ec,Sc,rfl,a4,a5,a7,a6,a8,hO,a3,a0,a1,_⟩:=qh h.stack.1 h.stack.2 hv;obtain⟨rfl,b1,b2,rfl⟩:=hO;have a2:=a0 0 _ rfl;rw[show k*zr.size+0=k from by show k*1+0=k;omega] at a2;obtain⟨z0,z1,z2,z3,z4,z5,z6,z7,zf,zl⟩:=tF h.WA;refine⟨gs,v,c,z3,a5,a3,hv,⟨b1,b2⟩,a2,fun e=>h.cs.1 (e ▸ a4),fun u hu=>?_⟩;have hp:=a1 0 (J Z u) u qo rfl ⟨rfl,hu.1,hu.2,rfl⟩;rw[show k*zr.size+0=k from by show k*1+0=k;omega] at hp;refine⟨D ⟨gs,0,C⟩,c,S,Ao,co,So,?_,?_,h.out.fJ hp.2 (fun x hx hm=>h.jj x hm hx),h.jj,h.cs,⟨by simpa using h.ok.len,h.ok.out,h.ok.pc,h.ok.sp,h.ok.fp,h.ok.st,h.ok.va⟩,hp.2.fy h.fy h.ls,h.lc,h.ls,h.lo,fun p hp'=>⟨(hp.2.block p.1 (R9.1 (h.kb p hp').1).1 (h.kb p hp').2.2.1).trans (h.kb p hp').1,(h.kb p hp').2⟩⟩
 ·have hm:=(hp.2.block gc (blt h.WA) h.cs.1).trans h.WA
  simpa only[RP] using hm
 ·have h9:Has (zr.sl 3) (W.setCell ⟨gs,k,C⟩ (J Z u)) [G (D ⟨gs,0,C⟩) m.pm.length c] (m.pm.set k u) S:=⟨hp.1,h.stack.2⟩
  simpa only[RP] using h9
theorem pz {a b:U} (h:fu a b){p:RJ}{v:Value}(hp:a.cell? p=D v):b.cell? p=D v:=by
 obtain⟨os,d,rfl⟩:=h;exact zd hp os d
theorem ox.fy {W W':U}{gc gm:Nat}{bad:Bool}{m:fv}{A:X RJ}{c:Nat}{S:Q Nat}{Ao:X RJ}{co:Nat}{So:Q Nat}(h:ox W gc gm bad m A c S Ao co So)(hg:fu W W'):ox W' gc gm bad m A c S Ao co So:=
 ⟨zj h.WA hg,zj h.jD hg,h.stack.fy hg,h.out.fy hg,h.jj,h.cm,h.cs⟩
theorem hJ.fy {B:Q (Nat × Obj)}{Y W W':U}{Ra gc gm:Nat}{bad:Bool}{m:fv}(h:hJ B Y W Ra gc gm bad m)(hg:fu W W'):hJ B Y W' Ra gc gm bad m:=by
 obtain⟨A,c,S,Ao,co,So,h⟩:=h;exact⟨A,c,S,Ao,co,So,h.iF.fy hg,h.ok,h.fy.trans hg,h.lc,h.lm,h.ls,h.lo,fun p hp=>⟨zj (h.kb p hp).1 hg,(h.kb p hp).2⟩⟩
def Qg (gm:Nat)(W W':U):Prop:=∀ v,Rb W ⟨gm,4,C⟩=D v->Rb W' ⟨gm,4,C⟩=D v
def iz (f:fv->X fv)(B:Q (Nat × Obj))(Y:U)(Ra gc gm:Nat)(bad:Bool)(m:fv)(r:Ending)(W':U):Prop:=
 r=.returned (.tuple #[])/\∃ b' m',hJ B Y W' Ra gc gm b' m'/\Ww b' m'=(Ww bad m).bind f
def Jp (B:Q (Nat × Obj))(Y:U)(Ra gc gm:Nat)(bad:Bool)(m:fv)(r:Ending)(W':U):Prop:=
 ∃ v b' m',fE v/\r=.returned (J Z v)/\hJ B Y W' Ra gc gm b' m'/\(Ww b' m').map (fun m=>(m,v))=(Ww bad m).bind gX
theorem Qq {sp:Int} {bad:Bool} (hs:fE sp):(bad || !fP (SN (sp-1)) 0 1199)=(bad || !fP sp 1 1200):=by
 cases bad with
 | true=>rfl
 | false=>
  simp only[U8];congr 1;rw[UP,zu,zu];unfold SN;have:=hs.1;have:=hs.2;omega
theorem Nx {bad:Bool} (h:(bad || !fP m.Sp 1 1200)=M):(Ww bad m).bind (fun m=>zP m v)=C:=by
 cases bad with
 | true=>rfl
 | false=>
  show zP m v=C;unfold zP;rw[Ro];intro h2;rw[h2] at h;cases h
theorem Ny (h:fP m.Sp 1 1200=M):(Ww I m).bind (fun m=>zP m v)=D { m with Sp:=m.Sp-1,pm:=m.pm.set (m.Sp-1).toNat v }:=by
 show zP m v=_;unfold zP;rw[Rs h]
theorem zeM {bad:Bool} (h:hJ B Y W Ra gc gm bad m)(hv:fE v) :
  RD prog 173 #[.pointer (D ⟨gc,0,C⟩),J Z v] W (iz (fun m=>zP m v) B Y Ra gc gm bad m):=by
 obtain⟨A,c,Ao,co,y0,y1,yf,yl,z0,z1,z2,z3,z4,z5,z6,zf,zl,hk⟩:=h.cells;obtain⟨q,hq⟩:∃ q,(bad || !fP m.Sp 1 1200)=q:=⟨_,rfl⟩
 have HA:=fh ((Qq (bad:=bad) hk.sp).trans hq);cases q with
 | true=>
  have HQ:=fh (Nx (v:=v) hq);have HK:=fh hk;have HC:=fh h;clear hq h hk;go_enter func173,ntmps173;go_wp2_with(go_at_call 132;(with_reducible refine(HC.out.at_).mono ?_);rw[HA.out];rintro e w1 ⟨rfl,a1⟩);exact RI (v:=.tuple #[]) (by simp[Rv,results173,go_sem]) rfl ⟨rfl,M,m,a1,HQ.out.symm⟩
 | false=>
  obtain⟨rfl,hb⟩:bad=I/\fP m.Sp 1 1200=M:=by simpa using hq
  have af:=zu.1 hb;have HQ:=fh (Ny (v:=v) hb);obtain⟨k,ai⟩:=RE (show 0<=m.Sp-1 from K9);have a8:m.Sp=((k+1:Nat):Int):=K9;have a3:k<1200:=K9;have HC:=fh h;have a6:=fh (show (I || !fP (k:Int) 0 1199)=I from by rw[U8,oz K9 K9];rfl);clear hq h hb HA;go_enter func173,ntmps173;go_upto_region 2 with(go_at_call 132;(with_reducible refine(HC.out.at_ (a:=(k:Int))).mono ?_);rw[a6.out];rintro e w1 ⟨rfl,a1⟩;obtain⟨A1,c1,ab,ad,t0,t1,tf,tl,u0,u1,u2,u3,u4,u5,u6,uf,ul,a0⟩:=a1.cells);have hI:fE (k:Int):=⟨K9,K9⟩
  have a2:=a1.num (i:=1) (v:=J Z (k:Int)) (m':={ m with Sp:=(k:Int) }) rfl rfl ⟨a0.len,a0.out,a0.pc,hI,a0.fp,a0.st,a0.va⟩ (fun _ _=>rfl);generalize w1.setCell _ _=w2 at a2 |-;clear t0 t1 tf tl u0 u1 u2 u3 u4 u5 u6 uf ul;obtain⟨A2,c2,ac,ae,t0,t1,tf,tl,u0,u1,u2,u3,u4,u5,u6,uf,ul,a7⟩:=a2.cells;obtain⟨gs,vo,cs,x3,xl,xf,xv,xb,xc,a9,aa,a5⟩:=a2.word a3;have a4:((1200:Nat):Int)=m.pm.length:=by rw[a0.len]
  have aj:(k:Int)<(m.pm.length:Int):=by rw[<-a4];omega
  have ag:gc≠gs:=a9.symm;have ah:gm≠gs:=aa.symm;clear u3;go_region_held3 (fun w'=>Rb w' ⟨gc,0,C⟩=D (.pointer (D ⟨gm,0,C⟩))/\Rb w' ⟨gm,1,C⟩=D (J Z (k:Int))/\Rb w' ⟨gm,3,C⟩=D (G (D ⟨gs,0,C⟩) m.pm.length cs)) ((repeat' apply Rf) <;> ((repeat (first | with_reducible assumption | with_reducible refine zd ?_ _ _ | with_reducible refine zo ?_ _ | with_reducible refine zc ?_ | with_reducible refine yq ?_ ?_));done)) (first | fail);exact RI (v:=.tuple #[]) (by simp[Rv,results173,go_sem]) rfl ⟨rfl,I,_,(a5 v hv).fy gG,by rw[HQ.out];show D _=D _;rw[a8,show ((k+1:Nat):Int)-1=(k:Int) from K9];rfl⟩
theorem Hf {bad:Bool} (h:(bad || !fP m.Sp 0 1199)=M):(Ww bad m).bind gX=C:=by
 cases bad with
 | true=>rfl
 | false=>
  show gX m=C;unfold gX;rw[sG (by simpa using h)];rfl
theorem zvi {bad:Bool} (h:hJ B Y W Ra gc gm bad m) :
  RD prog 176 #[.pointer (D ⟨gc,0,C⟩)] W (fun r W'=>Jp B Y Ra gc gm bad m r W'/\Qg gm W W'):=by
 obtain⟨A,c,Ao,co,y0,y1,yf,yl,z0,z1,z2,z3,z4,z5,z6,zf,zl,hk⟩:=h.cells;obtain⟨q,hq⟩:∃ q,(bad || !fP m.Sp 0 1199)=q:=⟨_,rfl⟩
 have HA:=fh hq;cases q with
 | true=>
  have HQ:=fh (Hf hq);have HK:=fh hk;have HC:=fh h;clear hq h hk;go_enter func176,ntmps176;go_wp2_with(go_at_call 132;(with_reducible refine(HC.out.DO).mono ?_);rw[HA.out];rintro e w1 ⟨rfl,a2,a4⟩);go_ret;exact⟨⟨0,M,m,⟨qo,qo⟩,rfl,a2,HQ.out.symm⟩,fun v hv=>a4 4 v hv⟩
 | false=>
  obtain⟨rfl,hb⟩:bad=I/\fP m.Sp 0 1199=M:=by simpa using hq
  have ah:=zu.1 hb;obtain⟨k,a8⟩:=RE (show 0<=m.Sp from K9);have a1:k<1200:=K9;obtain⟨_,vo,_,_,_,_,a7,ak,_⟩:=h.word a1
  have HQ:=fh (show (Ww I m).bind gX=D ({ m with Sp:=m.Sp+1 },vo) from by
   show gX m=_;unfold gX;rw[xz hb (v:=vo) (by rw[a8];exact a7)]
   rfl)
  have HV:=fh a7;have HC:=fh h;have a9:=fh (show (I || !fP (k:Int) 0 1199)=I from by rw[U8,oz K9 K9];rfl);clear hq h hb HA a7;go_enter func176,ntmps176;go_upto_region 4 with(go_at_call 132;(with_reducible refine(HC.out.DO (a:=(k:Int))).mono ?_);rw[a9.out];rintro e w1 ⟨rfl,a2,a4⟩;obtain⟨A1,c1,ad,af,t0,t1,tf,tl,u0,u1,u2,u3,u4,u5,u6,uf,ul,a0⟩:=a2.cells);have hI:fE ((k:Int)+1):=⟨K9,K9⟩
  have a3:=a2.num (i:=1) (v:=J Z ((k:Int)+1)) (m':={ m with Sp:=(k:Int)+1 }) rfl rfl ⟨a0.len,a0.out,a0.pc,hI,a0.fp,a0.st,a0.va⟩ (fun _ _=>rfl);have a5:∀ v,Rb W ⟨gm,4,C⟩=D v->(w1.setCell ⟨gm,1,C⟩ (J Z ((k:Int)+1))).cell? ⟨gm,4,C⟩=D v:=fun v hv=>(Uv w1 ⟨gm,1,C⟩ ⟨gm,4,C⟩ _ II).trans (a4 4 v hv);generalize w1.setCell _ _=w2 at a3 a5 |-;have aa:=fh a5;clear a4 a5;clear t0 t1 tf tl u0 u1 u2 u3 u4 u5 u6 uf ul;obtain⟨A2,c2,ae,ag,t0,t1,tf,tl,u0,u1,u2,u3,u4,u5,u6,uf,ul,ab⟩:=a3.cells;obtain⟨gs,vp,cs,x3,xl,xf,xv,xb,xc,al,am,ac⟩:=a3.word a1;obtain rfl:vo=vp:=by have:=HV.out.symm.trans xv;injection this
  have a6:((1200:Nat):Int)=m.pm.length:=by rw[a0.len]
  have ai:(k:Int)<(m.pm.length:Int):=by rw[<-a6];omega
  have aj:Rg Z ((k:Int)+1-1)=(k:Int):=by rw[show (k:Int)+1-1=(k:Int) from K9];exact iw
  clear u3;go_quiet (fail);go_wp2;go_ret;exact⟨⟨vo,I,_,xb,rfl,a3.fy gG,by rw[HQ.out,a8];rfl⟩,fun v hv=>pz (by(repeat' (first | with_reducible exact fu.refl _ | with_reducible exact fu.lq _ _ _ | with_reducible exact fu.kt _ _ _ _ | assumption | with_reducible apply fu.more | with_reducible apply fu.alloc | with_reducible apply fu.drew | with_reducible apply fu.drewN))) (aa.out v hv)⟩
theorem sF {bad:Bool} (h:hJ B Y W Ra gc gm bad m) :
  RD prog 176 #[.pointer (D ⟨gc,0,C⟩)] W (Jp B Y Ra gc gm bad m):=(zvi h).mono fun _ _ h=>h.1
theorem zu1 {bad:Bool} (h:hJ B Y W Ra gc gm bad m) :
  RD prog 174 #[.pointer (D ⟨gc,0,C⟩),J Z a] W (iz (fun m=>(ll m a).bind fun v=>zP m v) B Y Ra gc gm bad m):=by
 obtain⟨A,c,Ao,co,y0,y1,yf,yl,z0,z1,z2,z3,z4,z5,z6,zf,zl,hk⟩:=h.cells;obtain⟨q,hq⟩:∃ q,(bad || !fP a 0 1199)=q:=⟨_,rfl⟩
 have HA:=fh hq;cases q with
 | true=>
  have HQ:=fh (show (Ww bad m).bind (fun m=>(ll m a).bind fun v=>zP m v)=C from by
   cases bad with
   | true=>rfl
   | false=>
    show (ll m a).bind _=C;rw[sG (by simpa using hq)]
    rfl)
  have HC:=fh h;clear hq h hk;go_enter func174,ntmps174;go_wp2_with(go_at_call 132;(with_reducible refine(HC.out.at_).mono ?_);rw[HA.out];rintro e w1 ⟨rfl,a0⟩);exact RI (v:=.tuple #[]) (by simp[Rv,results174,go_sem]) rfl ⟨rfl,M,m,a0,HQ.out.symm⟩
 | false=>
  obtain⟨rfl,hb⟩:bad=I/\fP a 0 1199=M:=by simpa using hq
  have ab:=zu.1 hb;obtain⟨k,rfl⟩:=RE (show 0<=a from K9);have a1:k<1200:=K9;obtain⟨_,v,_,_,_,_,a3,ad,_⟩:=h.word a1
  have HQ:=fh (show (Ww I m).bind (fun m=>(ll m (k:Int)).bind fun v=>zP m v)=(Ww I m).bind (fun m=>zP m v) from by
   show (ll m (k:Int)).bind _=zP m v;rw[xz hb (v:=v) a3]
   rfl)
  have HV:=fh a3;have HC:=fh h;clear hq h hb a3;go_enter func174,ntmps174;go_upto_region 1 with(go_at_call 132;(with_reducible refine(HC.out.at_).mono ?_);rw[HA.out];rintro e w1 ⟨rfl,a0⟩);obtain⟨A1,c1,a9,aa,t0,t1,tf,tl,u0,u1,u2,u3,u4,u5,u6,uf,ul,a6⟩:=a0.cells;obtain⟨gs,vp,cs,x3,xl,xf,xv,xb,xc,ae,af,a8⟩:=a0.word a1;obtain rfl:v=vp:=by have:=HV.out.symm.trans xv;injection this
  have a2:((1200:Nat):Int)=m.pm.length:=by rw[a6.len]
  have ac:(k:Int)<(m.pm.length:Int):=by rw[<-a2];omega
  have a4:=fh a0;clear u3 a0;go_wp2_with(go_at_call 173;(with_reducible refine(zeM a4.out xb).mono ?_);rintro e w2 ⟨rfl,b2,m2,a5,a7⟩);exact RI (v:=.tuple #[]) (by simp[Rv,results174,go_sem]) rfl ⟨rfl,b2,m2,a5,a7.trans HQ.out.symm⟩
theorem zst {bad:Bool} (h:hJ B Y W Ra gc gm bad m) :
  RD prog 175 #[.pointer (D ⟨gc,0,C⟩),J Z a] W (iz (fun m=>(gX m).bind fun p=>ld p.1 a p.2) B Y Ra gc gm bad m):=by
 obtain⟨A,c,Ao,co,y0,y1,yf,yl,z0,z1,z2,z3,z4,z5,z6,zf,zl,hk⟩:=h.cells;have HC:=fh h;clear h hk;go_enter func175,ntmps175;go_upto_region 1 with(go_at_call 176;(with_reducible refine(sF HC.out).mono ?_);rintro e w1 ⟨v,b1,m1,hv,rfl,a1,a6⟩);obtain⟨q,hq⟩:∃ q,(b1 || !fP a 0 1199)=q:=⟨_,rfl⟩
 have HA:=fh hq;have HO:=fh (oO (K:=fun p=>ld p.1 a p.2) a6);clear a6;cases q with
 | true=>
  have HQ:=fh (show (Ww b1 m1).bind (fun m=>ld m a v)=C from by
   cases b1 with
   | true=>rfl
   | false=>
    show ld m1 a v=C;unfold ld
    rw[Ro (by simpa using hq)])
  have a2:=fh a1;clear hq a1;go_wp2_with(go_at_call 132;(with_reducible refine(a2.out.at_).mono ?_);rw[HA.out];rintro e w2 ⟨rfl,a0⟩);exact RI (v:=.tuple #[]) (by simp[Rv,results175,go_sem]) rfl ⟨rfl,M,m1,a0,(HO.out.trans HQ.out).symm⟩
 | false=>
  obtain⟨rfl,hb⟩:b1=I/\fP a 0 1199=M:=by simpa using hq
  have aa:=zu.1 hb;obtain⟨k,rfl⟩:=RE (show 0<=a from K9);have a3:k<1200:=K9
  have HQ:=fh (show (Ww I m1).bind (fun m=>ld m (k:Int) v)=Ww I { m1 with pm:=m1.pm.set k v } from by
   show ld m1 (k:Int) v=_;unfold ld;rw[Rs hb,Ry]
   rfl)
  have a2:=fh a1;clear hq a1 hb;go_upto_region 2 with(go_at_call 132;(with_reducible refine(a2.out.at_).mono ?_);rw[HA.out];rintro e w2 ⟨rfl,a0⟩);obtain⟨A1,c1,a8,a9,t0,t1,tf,tl,u0,u1,u2,u3,u4,u5,u6,uf,ul,a7⟩:=a0.cells;obtain⟨gs,vp,cs,x3,xl,xf,xv,xb,xc,ac,ad,a5⟩:=a0.word a3;have a4:((1200:Nat):Int)=m1.pm.length:=by rw[a7.len]
  have ab:(k:Int)<(m1.pm.length:Int):=by rw[<-a4];omega
  clear u3 a0;go_wp2_with(fail);exact RI (v:=.tuple #[]) (by simp[Rv,results175,go_sem]) rfl ⟨rfl,I,_,a5 v hv,(HO.out.trans HQ.out).symm⟩
theorem zqO {bad:Bool} (h:hJ B Y W Ra gc gm bad m)(hn:fE n) :
  RD prog 179 #[.pointer (D ⟨gc,0,C⟩),J Z n] W (iz (fun m=>ju n.toNat m) B Y Ra gc gm bad m):=by
 have a1:=hn.1;have a2:=hn.2;go_enter func179,ntmps179;go_wp2;go_loopw [1] (fun a wr=>∃(k:Int) (b1:Bool) (m1:fv),a=J Z k/\-9223372036854775808<=k/\k<=9223372036854775807/\Hid (hJ B Y wr Ra gc gm b1 m1)/\Hid ((Ww bad m).bind (fun m=>ju n.toNat m)=(Ww b1 m1).bind fun m=>ju k.toNat m)) (fun a _=>(RS a).toNat)
 case atStart=>exact⟨n,bad,m,rfl,a1,a2,fh h,fh rfl⟩
 case round=>
  obtain⟨k,b1,m1,rfl,a4,a5,hS,hO⟩:=hrel;by_cases hlt:0<k
  ·go_wp2_with(go_at_call 176;(with_reducible refine(sF hS.out).mono ?_);rintro e w1 ⟨v,b2,m2,hv,rfl,a0,a3⟩)
   go_roundw
   case measure=>exact gM
   case rel=>
    refine⟨k-1,b2,m2,II,K9,K9,fh a0,fh (hO.out.trans ?_)⟩;have h3:k.toNat=(k-1).toNat+1:=K9;rw[h3];exact oO (K:=fun p=>ju (k-1).toNat p.1) a3
  ·go_wp2_with(fail)
   refine RI (v:=.tuple #[]) (by simp[Rv,results179,go_sem]) rfl ⟨rfl,b1,m1,hS.out,?_⟩;rw[hO.out,show k.toNat=0 from K9];cases b1 <;> rfl
theorem zsG {bad:Bool} (h:hJ B Y W Ra gc gm bad m)(hn:fE n) :
  RD prog 178 #[.pointer (D ⟨gc,0,C⟩),J Z n] W (iz (fun m=>oA n.toNat m) B Y Ra gc gm bad m):=by
 have hz:fE 0:=⟨qo,qo⟩
 have a1:=hn.1;have a2:=hn.2;go_enter func178,ntmps178;go_wp2;go_loopw [1] (fun a wr=>∃(k:Int) (b1:Bool) (m1:fv),a=J Z k/\-9223372036854775808<=k/\k<=9223372036854775807/\Hid (hJ B Y wr Ra gc gm b1 m1)/\Hid ((Ww bad m).bind (fun m=>oA n.toNat m)=(Ww b1 m1).bind fun m=>oA k.toNat m)) (fun a _=>(RS a).toNat)
 case atStart=>exact⟨n,bad,m,rfl,a1,a2,fh h,fh rfl⟩
 case round=>
  obtain⟨k,b1,m1,rfl,a4,a5,hS,hO⟩:=hrel;by_cases hlt:0<k
  ·go_wp2_with(go_at_call 173;(with_reducible refine(zeM (v:=0) hS.out hz).mono ?_);rintro e w1 ⟨rfl,b2,m2,a0,a3⟩)
   go_roundw
   case measure=>exact gM
   case rel=>
    refine⟨k-1,b2,m2,II,K9,K9,fh a0,fh (hO.out.trans ?_)⟩;have h3:k.toNat=(k-1).toNat+1:=K9;rw[h3];exact Gi (K:=fun m=>oA (k-1).toNat m) a3
  ·go_wp2_with(fail)
   refine RI (v:=.tuple #[]) (by simp[Rv,results178,go_sem]) rfl ⟨rfl,b1,m1,hS.out,?_⟩;rw[hO.out,show k.toNat=0 from K9];cases b1 <;> rfl
theorem sX {P:Program} {id:Nat} {Q8:Exit->Act->U->Prop} {a:Act} {l:Q Oper} (n:Nat)(hm:P.follows .mixedOrders=M)(hB:Region.lexTailB .any l.toArray n=M)
  (h:∀ w',fu w w'->wpStill P l.toArray w' (fun a'=>wpList P l.toArray Q8 (l.drop n) a' w') (l.take n) a):(Code.region id l.toArray M).wp P Q8 a w:=
 wp_region_still_tail n hm hB (h w.drew ((fu.refl _).drew))
section
variable {es:Q Int} {m:fv} {arg:Int}
theorem JC (h:5<=code/\code<=9):zA es m code arg=(gX m).bind fun p=>(gX p.1).bind fun q=>zP q.1 (zO code q.2 p.2):=by
 unfold zA
 iterate 13 rw[Ro K9]
theorem Eb (h:5<=code/\code<=9):(o.bind fun m=>zA es m code arg)=o.bind fun m=>(gX m).bind fun p=>(gX p.1).bind fun q=>zP q.1 (zO code q.2 p.2):=by
 cases o with
 | none=>rfl
 | some m=>exact JC h
theorem Bs:(o.bind fun m=>zA es m 12 arg)=o.bind fun m=>(zP m m.Pc).bind fun m'=>(es[arg.toNat]?).map fun e=>{ m' with Pc:=e }:=rfl
theorem Jd:(o.bind fun m=>zA es m 13 arg)=o.bind fun m=>(zP m m.Fp).bind fun m'=>oA arg.toNat { m' with Fp:=m'.Sp }:=rfl
theorem Aq {f:fv->Int} (hf:f m=v){K:fv->X fv}(h:Ww b m1=(Ww I m).bind fun m=>zP m v):((Ww I m).bind fun m=>(zP m (f m)).bind K)=(Ww b m1).bind K:=by
 rw[h];show (zP m (f m)).bind K=(zP m v).bind K;rw[hf]
theorem Dd (h:fE a)(hn : -32768<=n/\n<=32767):ll m (SN (a+n))=ll m (a+n):=by
 obtain⟨h1,h2⟩:=h;by_cases hb : -9223372036854775808<=a+n/\a+n<=9223372036854775807
 ·rw[qC hb.1 hb.2]
 ·have e1:fP (SN (a+n)) 0 1199=I:=by
   cases hq:fP (SN (a+n)) 0 1199 with
   | false=>rfl
   | true=>
    have:=zu.1 hq;unfold SN at this;omega
  have e2:fP (a+n) 0 1199=I:=by
   cases hq:fP (a+n) 0 1199 with
   | false=>rfl
   | true=>
    have:=zu.1 hq;omega
  rw[sG e1,sG e2]
theorem yt (h:fP a 0 1199=I):ld m a v=C:=by
 unfold ld;rw[h];rfl
theorem CN (h:fE a)(hn : -32768<=n/\n<=32767):ld m (SN (a+n)) v=ld m (a+n) v:=by
 obtain⟨h1,h2⟩:=h;by_cases hb : -9223372036854775808<=a+n/\a+n<=9223372036854775807
 ·rw[qC hb.1 hb.2]
 ·have e1:fP (SN (a+n)) 0 1199=I:=by
   cases hq:fP (SN (a+n)) 0 1199 with
   | false=>rfl
   | true=>
    have:=zu.1 hq;unfold SN at this;omega
  have e2:fP (a+n) 0 1199=I:=by
   cases hq:fP (a+n) 0 1199 with
   | false=>rfl
   | true=>
    have:=zu.1 hq;omega
  rw[yt e1,yt e2]
theorem DQ (c a b:Int):fE (zO c a b):=by
 unfold zO;split
 ·exact xy _
 ·split
  ·exact xy _
  ·split
   ·exact xy _
   ·split
    ·split <;> exact⟨qo,qo⟩
    ·split
     ·split <;> exact⟨qo,qo⟩
     ·exact⟨qo,qo⟩
theorem Gc {b7 b8:Bool} {m7 m8:fv} {v5:Int} (h1:(Ww b1 m1).map (fun m=>(m,v1))=(Ww I m).bind gX)(h3:(Ww b3 m3).map (fun m=>(m,v3))=(Ww b1 { m1 with Sp:=m1.Fp }).bind gX)
  (h5:(Ww b5 m5).map (fun m=>(m,v5))=(Ww b3 { m3 with Fp:=v3 }).bind gX) (h7:Ww b7 m7=(Ww b5 { m5 with Pc:=v5 }).bind fun m=>ju arg.toNat m) (h8:Ww b8 m8=(Ww b7 m7).bind fun m=>zP m v1) :
  Ww b8 m8=(Ww I m).bind fun m=>zA es m 14 arg:=by
 show _=(Ww I m).bind fun m=>(gX m).bind fun p=>(gX { p.1 with Sp:=p.1.Fp }).bind fun q=>(gX { q.1 with Fp:=q.2 }).bind fun r=>(ju arg.toNat { r.1 with Pc:=r.2 }).bind fun m'=>zP m' p.2;rw[oO (K:=fun p=>(gX { p.1 with Sp:=p.1.Fp }).bind fun q=>(gX { q.1 with Fp:=q.2 }).bind fun r=>(ju arg.toNat { r.1 with Pc:=r.2 }).bind fun m'=>zP m' p.2) h1];have e1:((Ww b1 m1).bind fun m=>(gX { m with Sp:=m.Fp }).bind fun q=>(gX { q.1 with Fp:=q.2 }).bind fun r=>(ju arg.toNat { r.1 with Pc:=r.2 }).bind fun m'=>zP m' v1)=(Ww b1 { m1 with Sp:=m1.Fp }).bind fun m=>(gX m).bind fun q=>(gX { q.1 with Fp:=q.2 }).bind fun r=>(ju arg.toNat { r.1 with Pc:=r.2 }).bind fun m'=>zP m' v1:=by cases b1 <;> rfl
 refine Eq.trans ?_ e1.symm;rw[oO (K:=fun q=>(gX { q.1 with Fp:=q.2 }).bind fun r=>(ju arg.toNat { r.1 with Pc:=r.2 }).bind fun m'=>zP m' v1) h3];have e3:((Ww b3 m3).bind fun m=>(gX { m with Fp:=v3 }).bind fun r=>(ju arg.toNat { r.1 with Pc:=r.2 }).bind fun m'=>zP m' v1)=(Ww b3 { m3 with Fp:=v3 }).bind fun m=>(gX m).bind fun r=>(ju arg.toNat { r.1 with Pc:=r.2 }).bind fun m'=>zP m' v1:=by cases b3 <;> rfl
 refine Eq.trans ?_ e3.symm;rw[oO (K:=fun r=>(ju arg.toNat { r.1 with Pc:=r.2 }).bind fun m'=>zP m' v1) h5];have e5:((Ww b5 m5).bind fun m=>(ju arg.toNat { m with Pc:=v5 }).bind fun m'=>zP m' v1)=((Ww b5 { m5 with Pc:=v5 }).bind fun m=>ju arg.toNat m).bind fun m'=>zP m' v1:=by cases b5 <;> rfl
 refine Eq.trans ?_ e5.symm;rw[<-h7];exact h8
theorem Iv (h:gX m=D (m1,v)):m1 = { m with Sp:=m.Sp+1 }:=by
 unfold gX at h;cases hc:ll m m.Sp with
 | none=>rw[hc] at h;cases h
 | some u=>
  rw[hc] at h;injection h with h
  injection h with h1 h2
  exact h1.symm
theorem Ie (n:Int):fE (SN n):=by
 unfold SN;exact⟨K9,K9⟩
theorem Ig (h1:(Ww b1 m1).map (fun m=>(m,(0:Int)))=(Ww I m).bind gX)(hp : -4611686018427387904<=m.Pc/\m.Pc<=4611686018427387904)(ha : -32768<=arg/\arg<=32767) :
  Ww b1 { m1 with Pc:=SN (m1.Pc+arg) }=(Ww I m).bind fun m=>zA es m 11 arg:=by
 have h2:(Ww b1 m1).map (fun m=>(m,(0:Int)))=gX m:=h1;show _=(gX m).map fun p=>if p.2=0 then { p.1 with Pc:=p.1.Pc+arg } else p.1
 rw[<-h2];cases b1 with
 | true=>rfl
 | false=>
  have h3:=Iv h2.symm;show D { m1 with Pc:=SN (m1.Pc+arg) }=D { m1 with Pc:=m1.Pc+arg };have h4:m1.Pc=m.Pc:=by rw[h3]
  rw[h4,qC K9 K9]
theorem I0 (h1:(Ww b1 m1).map (fun m=>(m,v))=(Ww I m).bind gX)(hv:¬ v=0) :
  Ww b1 m1=(Ww I m).bind fun m=>zA es m 11 arg:=by
 have h2:(Ww b1 m1).map (fun m=>(m,v))=gX m:=h1;show _=(gX m).map fun p=>if p.2=0 then { p.1 with Pc:=p.1.Pc+arg } else p.1
 rw[<-h2];cases b1 with
 | true=>rfl
 | false=>
  show D m1=D (if v=0 then _ else m1);rw[Ro hv]
theorem IK (h1:(Ww b1 m1).map (fun m=>(m,v))=(Ww I m).bind gX) :
  Ww b1 { m1 with If:=m1.If++[v] }=(Ww I m).bind fun m=>zA es m 17 arg:=by
 have h2:(Ww b1 m1).map (fun m=>(m,v))=gX m:=h1;show _=(gX m).map fun p=>{ p.1 with If:=p.1.If++[p.2] };rw[<-h2];cases b1 <;> rfl
theorem IS {a:Nat} {b6:Bool} {m6:fv} (h1:(Ww b1 m1).map (fun m=>(m,v1))=(Ww I m).bind gX)(h2:Ww b2 m2=(Ww b1 m1).bind fun m=>ju ((a:Int) / 16).toNat m)
  (h3:(Ww b3 m3).map (fun m=>(m,v3))=(Ww b2 m2).bind gX) (h5:Ww b5 m5=(Ww b3 { m3 with Pc:=v3 }).bind fun m=>ju ((a:Int) % 16).toNat m) (h6:Ww b6 m6=(Ww b5 m5).bind fun m=>zP m v1) :
  Ww b6 m6=(Ww I m).bind fun m=>zA es m 16 (a:Int):=by
 show _=(Ww I m).bind fun m=>(gX m).bind fun p=>(ju (a / 16) p.1).bind fun m1=>(gX m1).bind fun r=>(ju (a % 16) { r.1 with Pc:=r.2 }).bind fun m'=>zP m' p.2;rw[oO (K:=fun p=>(ju (a / 16) p.1).bind fun m1=>(gX m1).bind fun r=>(ju (a % 16) { r.1 with Pc:=r.2 }).bind fun m'=>zP m' p.2) h1];rw[show ((a:Int) / 16).toNat=a / 16 from K9] at h2;rw[show ((a:Int) % 16).toNat=a % 16 from K9] at h5;have e1:((Ww b1 m1).bind fun m=>(ju (a / 16) m).bind fun m1=>(gX m1).bind fun r=>(ju (a % 16) { r.1 with Pc:=r.2 }).bind fun m'=>zP m' v1)=((Ww b1 m1).bind fun m=>ju (a / 16) m).bind fun m=>(gX m).bind fun r=>(ju (a % 16) { r.1 with Pc:=r.2 }).bind fun m'=>zP m' v1:=by cases b1 <;> rfl
 refine Eq.trans ?_ e1.symm;rw[<-h2,oO (K:=fun r=>(ju (a % 16) { r.1 with Pc:=r.2 }).bind fun m'=>zP m' v1) h3];have e3:((Ww b3 m3).bind fun m=>(ju (a % 16) { m with Pc:=v3 }).bind fun m'=>zP m' v1)=((Ww b3 { m3 with Pc:=v3 }).bind fun m=>ju (a % 16) m).bind fun m'=>zP m' v1:=by cases b3 <;> rfl
 refine Eq.trans ?_ e3.symm;rw[<-h5];exact h6
end
theorem lX.WH {bad:Bool} (h:lX B Y W Ra gc gm bad m A c S Ao co So)
  (hon:fx So W W7) (hH:Has (zr.sl 3) W7 [G A7 (m.If.length+1) c7] (m.If++[v]) S7) (hS:∀ b∈S7,b∈So∨W.heap.size<=b) :
  lX B Y (W7.setCell ⟨gm,4,C⟩ (G A7 (m.If.length+1) c7)) (Ra+1) gc gm bad { m with If:=m.If++[v] } A c S A7 c7 S7:=by
 have a6:=(blt h.iF.WA)
 have a7:=(blt h.iF.jD)
 have a1:(m.If++[v]).length=m.If.length+1:=II;have a0:fx [gm] W7 (W7.setCell ⟨gm,4,C⟩ (G A7 (m.If.length+1) c7)):=(fx.refl _ _).setCell (p:=⟨gm,4,C⟩) II _
 have a4:gm∉S7:=fun hm=>by
  rcases hS gm hm with h1 | h1
  ·exact h.iF.cs.2.2.2 h1
  ·omega
 have a5:gc∉S7:=fun hm=>by
  rcases hS gc hm with h1 | h1
  ·exact h.iF.cs.2.1 h1
  ·omega
 have a8:=h.fy.size;have a2:=(hon.block gc a6 h.iF.cs.2.1).trans h.iF.WA;have a3:=(hon.block gm a7 h.iF.cs.2.2.2).trans h.iF.jD;refine⟨⟨(a0.block gc (blt a2) (by simpa using h.iF.cm)).trans a2,?_,?_,?_,?_,h.iF.cm,⟨h.iF.cs.1,a5,h.iF.cs.2.2.1,a4⟩⟩,⟨h.ok.len,by rw[a1];have:=h.ok.out;omega,h.ok.pc,h.ok.sp,h.ok.fp,h.ok.st,h.ok.va⟩,?_,h.lc,h.lm,h.ls,?_,?_⟩
 ·rw[a1]
  exact jd (i:=4) a3 rfl
 ·exact(h.iF.stack.fJ hon (fun x hx=>h.iF.jj x hx)).fJ a0 (fun x hx hm=>h.iF.cs.2.2.1 (by simp at hm;exact hm ▸ hx))
 ·rw[a1]
  exact hH.fJ a0 (fun x hx hm=>a4 (by simp at hm;exact hm ▸ hx))
 ·intro x hx hm
  rcases hS x hm with h1 | h1
  ·exact h.iF.jj x hx h1
  ·have:=h.iF.stack.lt x hx
   omega
 ·exact a0.fy (hon.fy h.fy h.lo) (fun b hb=>by simp at hb;exact hb ▸ h.lm)
 ·intro b hb
  rcases hS b hb with h1 | h1
  ·exact h.lo b h1
  ·omega
 ·intro p hp
  obtain⟨h1,h2,h3,h4,h5⟩:=h.kb p hp;have h6:=(hon.block p.1 (blt h1) h5).trans h1;refine⟨(a0.block p.1 (blt h6) (by simpa using h3)).trans h6,h2,h3,h4,fun hm=>?_⟩;rcases hS p.1 hm with h7 | h7
  ·exact h5 h7
  ·have:=(blt h1)
   omega
theorem hJ.grow {bad:Bool} (h:hJ B Y W Ra gc gm bad m):fu Y W:=by
 obtain⟨A,c,S,Ao,co,So,h⟩:=h;exact h.fy
def Ji (gc:Nat)(W W':U):Prop:=∀ i v,i≠1->i≠7->Rb W ⟨gc,i,C⟩=D v->Rb W' ⟨gc,i,C⟩=D v
def iE (f:fv->X fv)(B:Q (Nat × Obj))(Y:U)(Ra gc:Nat)(bad:Bool)(m:fv)(r:Ending)(W':U):Prop:=
 r=.returned (.tuple #[])/\∃ b' m',ie B Y W' Ra gc b' m'/\Ww b' m'=(Ww bad m).bind f
def Jq (B:Q (Nat × Obj))(Y:U)(Ra gc:Nat)(bad:Bool)(m:fv)(r:Ending)(W':U):Prop:=
 ∃ v b' m',fE v/\r=.returned (J Z v)/\ie B Y W' Ra gc b' m'/\(Ww b' m').map (fun m=>(m,v))=(Ww bad m).bind gX
def Jl (B:Q (Nat × Obj))(Y:U)(Ra gc:Nat)(bad:Bool)(m:fv)(a:Int)(r:Ending)(W':U):Prop:=
 ∃ v,fE v/\r=.returned (J Z v)/\ie B Y W' Ra gc (bad || !fP a 0 1199) m/\(fP a 0 1199=M->m.pm[a.toNat]?=D v)
theorem uY {g:Prop} (f:g:=by
  have HC:=fh (h.num (i:=7) (v:=H M) (bad':=M) (m':=m) rfl rfl hk (fun _ _=>rfl))
  clear h hno hk
  go_enter func136,ntmps136
  go_wp2_with(fail)
  exact RI (v:=.tuple #[]) (by simp[Rv,results136,go_sem]) rfl ⟨rfl,M,m,HC.out,HQ.out⟩):g:=f
theorem zeq {bad:Bool} (h:ie B Y W Ra gc bad m)(hv:fE v) :
  RD prog 136 #[.pointer (D ⟨gc,0,C⟩),J Z v] W (iE (fun m=>zP m v) B Y Ra gc bad m):=by
 obtain⟨A,c,Ao,co,z0,z1,z2,z3,z4,z5,z6,z7,zf,zl,hk⟩:=h.cells
 have hno:fP m.Sp 1 1200=I->(Ww M m)=(Ww bad m).bind fun m=>zP m v:=fun hb=>by
  cases bad with
  | true=>rfl
  | false=>
   show C=zP m v;unfold zP;rw[hb];rfl
 by_cases h1:m.Sp<1
 ·have HQ:=fh (hno (by cases hq:fP m.Sp 1 1200 with | false=>rfl | true=>have:=zu.1 hq;omega))
  exact uY
 ·by_cases h2:1200<m.Sp
  ·have HQ:=fh (hno (by cases hq:fP m.Sp 1 1200 with | false=>rfl | true=>have:=zu.1 hq;omega))
   exact uY
  ·obtain⟨k,a2⟩:=RE (show 0<=m.Sp-1 from K9)
   have a6:m.Sp=((k+1:Nat):Int):=K9;have a1:k<1200:=K9
   have HQ:=fh (show Ww bad { m with Sp:=(k:Int),pm:=m.pm.set k v }=(Ww bad m).bind fun m=>zP m v from by
    cases bad with
    | true=>rfl
    | false=>
     show _=zP m v;unfold zP;rw[Rs (oz K9 K9),a6,show ((k+1:Nat):Int)-1=(k:Int) from K9]
     rfl)
   have hI:fE (k:Int):=⟨K9,K9⟩
   have a0:=h.num (i:=1) (v:=J Z (k:Int)) (bad':=bad) (m':={ m with Sp:=(k:Int) }) rfl rfl ⟨hk.len,hk.out,hk.pc,hI,hk.fp,hk.st,hk.va⟩ (fun _ _=>rfl);have a5:=fh a0;clear hno h hk a0 h1 h2 a2;have aa:¬ ((k:Int)+1<1):=K9;have ab:¬ (1200<(k:Int)+1):=K9;go_enter func136,ntmps136;go_upto_region 3 with(fail);have a0:=a5.out;clear a5;generalize W.setCell _ _=w2 at a0 |-;refine sX 12 Fs Fs (fun wx hgx=>?_);have hX:=a0.fy hgx;clear z0 z1 z2 z3 z4 z5 z6 z7 zf zl;obtain⟨A2,c2,a7,a8,z0,z1,z2,z3,z4,z5,z6,z7,zf,zl,a2⟩:=hX.cells;obtain⟨gs,vo,cs,x3,xl,xf,xv,xb,xc,ac,a4⟩:=hX.word a1;have a3:((1200:Nat):Int)=m.pm.length:=by rw[<-a2.len]
   have a9:(k:Int)<(m.pm.length:Int):=by rw[<-a3];omega
   clear z3;have z3:=x3;simp only[RZ,SH,Sm,Sx]
   repeat still_step
   refine Tj ?_;go_wp2_with(fail);exact RI (v:=.tuple #[]) (by simp[Rv,results136,go_sem]) rfl ⟨rfl,bad,_,a4 v hv,HQ.out⟩
theorem zor {bad:Bool} (h:ie B Y W Ra gc bad m) :
  RD prog 86 #[.pointer (D ⟨gc,0,C⟩),J Z a] W (fun r W'=>Jl B Y Ra gc bad m a r W'/\Ji gc W W'):=by
 obtain⟨A,c,Ao,co,z0,z1,z2,z3,z4,z5,z6,z7,zf,zl,hk⟩:=h.cells;obtain⟨q,hq⟩:∃ q,fP a 0 1199=q:=⟨_,rfl⟩
 have HA:=fh hq;cases q with
 | false=>
  have HC:=fh (h.num (i:=7) (v:=H M) (bad':=M) (m':=m) rfl rfl hk (fun _ _=>rfl));clear h hk hq;go_enter func86,ntmps86;go_wp2_with(go_at_call 43;(with_reducible refine(gW _ _ _ _).mono ?_);rw[HA.out];rintro e w1 ⟨rfl,rfl⟩);go_ret;refine⟨⟨0,⟨qo,qo⟩,rfl,?_,fun hb=>?_⟩,fun i v h1 h7 hv=>(Uv _ ⟨gc,7,C⟩ ⟨gc,i,C⟩ _ (fun he=>by injection he;omega)).trans hv⟩
  ·rw[HA.out]
   have h9:=HC.out;cases bad <;> exact h9
  ·rw[HA.out] at hb
   cases hb
 | true=>
  have a3:=zu.1 hq;obtain⟨k,rfl⟩:=RE (show 0<=a from K9);have a0:k<1200:=K9;obtain⟨gs,vo,cs,x3,xl,xf,xv,xb,xc,a5,a2⟩:=h.word a0;have a1:((1200:Nat):Int)=m.pm.length:=by rw[<-hk.len]
  have a4:(k:Int)<(m.pm.length:Int):=by rw[<-a1];omega
  have HC:=fh h;have HV:=fh xv;clear h hk hq z3 xv a2;go_enter func86,ntmps86;go_wp2_with(go_at_call 43;(with_reducible refine(gW _ _ _ _).mono ?_);rw[HA.out];rintro e w1 ⟨rfl,rfl⟩);go_ret;refine⟨⟨vo,xb,rfl,?_,fun _=>HV.out⟩,fun i v _ _ hv=>hv⟩;rw[HA.out];have h9:=HC.out;cases bad <;> exact h9
theorem Jb {bad:Bool} (h:ie B Y W Ra gc bad m) :
  RD prog 86 #[.pointer (D ⟨gc,0,C⟩),J Z a] W (Jl B Y Ra gc bad m a):=(zor h).mono fun _ _ h=>h.1
theorem zn9 {bad:Bool} (h:ie B Y W Ra gc bad m) :
  RD prog 139 #[.pointer (D ⟨gc,0,C⟩)] W (fun r W'=>Jq B Y Ra gc bad m r W'/\Ji gc W W'):=by
 obtain⟨A,c,Ao,co,z0,z1,z2,z3,z4,z5,z6,z7,zf,zl,hk⟩:=h.cells;obtain⟨sp,a3⟩:∃ sp,m.Sp=sp:=⟨_,rfl⟩
 have a1:=fh a3;rw[a3] at z1;have HC:=fh h;have hI:=hk.sp;rw[a3] at hI;clear h hk a3;go_enter func139,ntmps139;go_upto_region 2 with(go_at_call 86;(with_reducible refine(zor HC.out).mono ?_);rintro e w1 ⟨⟨v1,a7,rfl,a2,a6⟩,a5⟩);have a4:=fh a5;have aa:=fh a6;clear a5 a6;obtain⟨q,hq⟩:∃ q,(bad || !fP sp 0 1199)=q:=⟨_,rfl⟩
 rw[hq] at a2;clear z0 z1 z2 z3 z4 z5 z6 z7 zf zl;obtain⟨A2,c2,ac,ad,z0,z1,z2,z3,z4,z5,z6,z7,zf,zl,a0⟩:=a2.cells;rw[a1.out] at z1;cases q with
 | true=>
  have HQ:=fh (Hf (m:=m) (by rw[a1.out];exact hq));have a8:=fh a2;clear a2 hq a0;go_wp2_with(fail);go_ret;exact⟨⟨v1,M,m,a7,rfl,a8.out,HQ.out.symm⟩,a4.out⟩
 | false=>
  obtain⟨rfl,hb⟩:bad=I/\fP sp 0 1199=M:=by simpa using hq
  have ae:=zu.1 hb
  have HQ:=fh (show (Ww I m).bind gX=D ({ m with Sp:=sp+1 },v1) from by
   show gX m=_;unfold gX;rw[xz (v:=v1) (by rw[a1.out];exact hb) (by rw[a1.out];exact aa.out hb),a1.out]
   rfl)
  have ab:fE (sp+1):=⟨K9,K9⟩
  have a9:=fh (a2.num (i:=1) (v:=J Z (sp+1)) (bad':=I) (m':={ m with Sp:=sp+1 }) rfl rfl ⟨a0.len,a0.out,a0.pc,ab,a0.fp,a0.st,a0.va⟩ (fun _ _=>by rw[a1.out];rfl));clear a2 hq a0 hb;go_wp2_with(fail);go_ret;exact⟨⟨v1,I,_,a7,rfl,a9.out,HQ.out.symm⟩,fun i v h1 h7 hv=>(Uv _ ⟨gc,1,C⟩ ⟨gc,i,C⟩ _ (fun he=>by injection he;omega)).trans (a4.out i v h1 h7 hv)⟩
theorem tu {bad:Bool} (h:ie B Y W Ra gc bad m) :
  RD prog 139 #[.pointer (D ⟨gc,0,C⟩)] W (Jq B Y Ra gc bad m):=(zn9 h).mono fun _ _ h=>h.1
theorem zw2 {bad:Bool} (h:ie B Y W Ra gc bad m)(hv:fE v) :
  RD prog 138 #[.pointer (D ⟨gc,0,C⟩),J Z a,J Z v] W (iE (fun m=>ld m a v) B Y Ra gc bad m):=by
 obtain⟨A,c,Ao,co,z0,z1,z2,z3,z4,z5,z6,z7,zf,zl,hk⟩:=h.cells;obtain⟨q,hq⟩:∃ q,fP a 0 1199=q:=⟨_,rfl⟩
 have HA:=fh hq;cases q with
 | false=>
  have HC:=fh (h.num (i:=7) (v:=H M) (bad':=M) (m':=m) rfl rfl hk (fun _ _=>rfl))
  have HQ:=fh (show Ww M m=(Ww bad m).bind fun m=>ld m a v from by
   cases bad with
   | true=>rfl
   | false=>exact(yt hq).symm)
  clear h hk hq;go_enter func138,ntmps138;go_wp2_with(go_at_call 43;(with_reducible refine(gW _ _ _ _).mono ?_);rw[HA.out];rintro e w1 ⟨rfl,rfl⟩);exact RI (v:=.tuple #[]) (by simp[Rv,results138,go_sem]) rfl ⟨rfl,M,m,HC.out,HQ.out⟩
 | true=>
  have a3:=zu.1 hq;obtain⟨k,rfl⟩:=RE (show 0<=a from K9);have a1:k<1200:=K9;obtain⟨gs,vo,cs,x3,xl,xf,xv,xb,xc,a5,a0⟩:=h.word a1;have a2:((1200:Nat):Int)=m.pm.length:=by rw[<-hk.len]
  have a4:(k:Int)<(m.pm.length:Int):=by rw[<-a2];omega
  have HP:=fh (a0 v hv)
  have HQ:=fh (show Ww bad { m with pm:=m.pm.set k v }=(Ww bad m).bind fun m=>ld m (k:Int) v from by
   cases bad with
   | true=>rfl
   | false=>
    show _=ld m (k:Int) v;unfold ld;rw[Rs hq]
    rfl)
  clear h hk hq z3 xv a0;go_enter func138,ntmps138;go_wp2_with(go_at_call 43;(with_reducible refine(gW _ _ _ _).mono ?_);rw[HA.out];rintro e w1 ⟨rfl,rfl⟩);exact RI (v:=.tuple #[]) (by simp[Rv,results138,go_sem]) rfl ⟨rfl,bad,_,HP.out,HQ.out⟩
theorem zqP {bad:Bool} (h:ie B Y W Ra gc bad m)(hn0:0<=n)(hn:n<=9223372036854775807) :
  RD prog 141 #[.pointer (D ⟨gc,0,C⟩),J Z n] W (iE (fun m=>ju n.toNat m) B Y Ra gc bad m):=by
 go_enter func141,ntmps141;go_wp2;go_loopw [4] (fun a wr=>∃(k:Int) (b1:Bool) (m1:fv),a=J Z k/\0<=k/\k<=n/\Hid (ie B Y wr Ra gc b1 m1)/\Hid ((Ww bad m).bind (fun m=>ju n.toNat m)=(Ww b1 m1).bind fun m=>ju (n-k).toNat m)) (fun a _=>(n-RS a).toNat)
 case atStart=>exact⟨0,bad,m,rfl,K9,hn0,fh h,fh (by rw[Int.sub_zero])⟩
 case round=>
  obtain⟨k,b1,m1,rfl,a2,a3,hS,hO⟩:=hrel;by_cases hlt:k<n
  ·go_wp2_with(go_at_call 139;(with_reducible refine(tu hS.out).mono ?_);rintro e w1 ⟨v,b2,m2,hv,rfl,a0,a1⟩)
   go_roundw
   case measure=>exact gM
   case rel=>
    refine⟨k+1,b2,m2,II,K9,K9,fh a0,fh (hO.out.trans ?_)⟩;have h3:(n-k).toNat=(n-(k+1)).toNat+1:=K9;rw[h3];exact oO (K:=fun p=>ju (n-(k+1)).toNat p.1) a1
  ·go_wp2_with(fail)
   refine RI (v:=.tuple #[]) (by simp[Rv,results141,go_sem]) rfl ⟨rfl,b1,m1,hS.out,?_⟩;rw[hO.out,show (n-k).toNat=0 from K9];cases b1 <;> rfl
theorem zsH {bad:Bool} (h:ie B Y W Ra gc bad m)(hn0:0<=n)(hn:n<=9223372036854775807) :
  RD prog 140 #[.pointer (D ⟨gc,0,C⟩),J Z n] W (iE (fun m=>oA n.toNat m) B Y Ra gc bad m):=by
 have hz:fE 0:=⟨qo,qo⟩
 go_enter func140,ntmps140;go_wp2;go_loopw [4] (fun a wr=>∃(k:Int) (b1:Bool) (m1:fv),a=J Z k/\0<=k/\k<=n/\Hid (ie B Y wr Ra gc b1 m1)/\Hid ((Ww bad m).bind (fun m=>oA n.toNat m)=(Ww b1 m1).bind fun m=>oA (n-k).toNat m)) (fun a _=>(n-RS a).toNat)
 case atStart=>exact⟨0,bad,m,rfl,K9,hn0,fh h,fh (by rw[Int.sub_zero])⟩
 case round=>
  obtain⟨k,b1,m1,rfl,a2,a3,hS,hO⟩:=hrel;by_cases hlt:k<n
  ·go_wp2_with(go_at_call 136;(with_reducible refine(zeq (v:=0) hS.out hz).mono ?_);rintro e w1 ⟨rfl,b2,m2,a0,a1⟩)
   go_roundw
   case measure=>exact gM
   case rel=>
    refine⟨k+1,b2,m2,II,K9,K9,fh a0,fh (hO.out.trans ?_)⟩;have h3:(n-k).toNat=(n-(k+1)).toNat+1:=K9;rw[h3];exact Gi (K:=fun m=>oA (n-(k+1)).toNat m) a1
  ·go_wp2_with(fail)
   refine RI (v:=.tuple #[]) (by simp[Rv,results140,go_sem]) rfl ⟨rfl,b1,m1,hS.out,?_⟩;rw[hO.out,show (n-k).toNat=0 from K9];cases b1 <;> rfl
def rN (a n:Int):Int:=if fP a (-100000) 100000=M then a+n else -1
theorem vu {g:Prop} (f:g:=by
  clear hq
  go_enter func137,ntmps137
  go_wp2_with(go_at_call 43;(with_reducible refine(gW _ _ _ _).mono ?_);rw[HA.out];rintro e w1 ⟨rfl,rfl⟩)
  rw[HN.out]
  go_ret
  exact⟨rfl,rfl⟩):g:=f
theorem IG (a n:Int)(w:U)(hn : -32768<=n/\n<=32767):RD prog 137 #[J Z a,J Z n] w fun r w'=>r=.returned (J Z (rN a n))/\w=w':=by
 obtain⟨q,hq⟩:∃ q,fP a (-100000) 100000=q:=⟨_,rfl⟩
 have HA:=fh hq;cases q with
 | false=>
  have HN:=fh (show rN a n = -1 from by unfold rN;rw[hq];rfl);exact vu
 | true=>
  have hb:=zu.1 hq;have HN:=fh (show rN a n=a+n from by unfold rN;rw[hq];rfl);exact vu
theorem Hs (hn : -32768<=n/\n<=32767):fP (rN a n) 0 1199=fP (a+n) 0 1199/\(fP (a+n) 0 1199=M->rN a n=a+n):=by
 unfold rN;by_cases hq:fP a (-100000) 100000=M
 ·rw[Rs hq]
  exact⟨rfl,fun _=>rfl⟩
 ·rw[Ro hq]
  have h2:fP (a+n) 0 1199=I:=by
   cases hb:fP (a+n) 0 1199 with
   | false=>rfl
   | true=>
    have:=zu.1 hb;exact absurd (oz K9 K9) hq
  rw[h2];exact⟨rfl,fun h=>by cases h⟩
theorem M5 (hn : -32768<=n/\n<=32767):ld m (rN a n) v=ld m (a+n) v:=by
 obtain⟨h1,h2⟩:=Hs (a:=a) hn;cases hb:fP (a+n) 0 1199 with
 | true=>rw[h2 hb]
 | false=>rw[yt hb,yt (by rw[h1,hb])]
theorem OQ (hn : -32768<=n/\n<=32767):ll m (rN a n)=ll m (a+n):=by
 obtain⟨h1,h2⟩:=Hs (a:=a) hn;cases hb:fP (a+n) 0 1199 with
 | true=>rw[h2 hb]
 | false=>rw[sG hb,sG (by rw[h1,hb])]
theorem Ic {bad:Bool} (hW:fP a 0 1199=M->m.pm[a.toNat]?=D v)(ho:Ww b2 m2=(Ww (bad || !fP a 0 1199) m).bind fun m=>zP m v):Ww b2 m2=(Ww bad m).bind fun m=>(ll m a).bind fun v=>zP m v:=by
 rw[ho];cases bad with
 | true=>rfl
 | false=>
  cases hb:fP a 0 1199 with
  | true=>
   show zP m v=(ll m a).bind _;rw[xz hb (hW hb)];rfl
  | false=>
   show C=(ll m a).bind _;rw[sG hb];rfl
theorem N3 {es:Q Int} {arg:Int} (h1:(Ww b1 m1).map (fun m=>(m,v1))=(Ww I m).bind gX)(hf:fP m1.Fp 0 1200=I):C=(Ww I m).bind fun m=>zA es m 14 arg:=by
 show _=(Ww I m).bind fun m=>(gX m).bind fun p=>(gX { p.1 with Sp:=p.1.Fp }).bind fun q=>(gX { q.1 with Fp:=q.2 }).bind fun r=>(ju arg.toNat { r.1 with Pc:=r.2 }).bind fun m'=>zP m' p.2;rw[oO (K:=fun p=>(gX { p.1 with Sp:=p.1.Fp }).bind fun q=>(gX { q.1 with Fp:=q.2 }).bind fun r=>(ju arg.toNat { r.1 with Pc:=r.2 }).bind fun m'=>zP m' p.2) h1];cases b1 with
 | true=>rfl
 | false=>
  show C=(gX { m1 with Sp:=m1.Fp }).bind _
  have h2:fP m1.Fp 0 1199=I:=by
   cases hq:fP m1.Fp 0 1199 with
   | false=>rfl
   | true=>
    have:=zu.1 hq;rw[oz K9 K9] at hf;cases hf
  unfold gX;rw[sG h2];rfl
theorem pv.WH {bad:Bool} (h:pv B Y W Ra gc bad m A c S Ao co So)
  (hon:fx So W W7) (hH:Has (zr.sl 3) W7 [G A7 (m.If.length+1) c7] (m.If++[v]) S7) (hS:∀ b∈S7,b∈So∨W.heap.size<=b) :
  pv B Y (W7.setCell ⟨gc,4,C⟩ (G A7 (m.If.length+1) c7)) (Ra+1) gc bad { m with If:=m.If++[v] } A c S A7 c7 S7:=by
 have a4:=(blt h.WA)
 have a1:(m.If++[v]).length=m.If.length+1:=II;have a0:fx [gc] W7 (W7.setCell ⟨gc,4,C⟩ (G A7 (m.If.length+1) c7)):=(fx.refl _ _).setCell (p:=⟨gc,4,C⟩) II _
 have a3:gc∉S7:=fun hm=>by
  rcases hS gc hm with h1 | h1
  ·exact h.cs.2 h1
  ·omega
 have a5:=h.fy.size;have a2:=(hon.block gc a4 h.cs.2).trans h.WA;refine⟨?_,?_,?_,?_,⟨h.cs.1,a3⟩,⟨h.ok.len,by rw[a1];have:=h.ok.out;omega,h.ok.pc,h.ok.sp,h.ok.fp,h.ok.st,h.ok.va⟩,?_,h.lc,h.ls,?_,?_⟩
 ·rw[a1]
  exact jd (i:=4) a2 rfl
 ·exact(h.stack.fJ hon (fun x hx=>h.jj x hx)).fJ a0 (fun x hx hm=>h.cs.1 (by simp at hm;exact hm ▸ hx))
 ·rw[a1]
  exact hH.fJ a0 (fun x hx hm=>a3 (by simp at hm;exact hm ▸ hx))
 ·intro x hx hm
  rcases hS x hm with h1 | h1
  ·exact h.jj x hx h1
  ·have:=h.stack.lt x hx
   omega
 ·exact a0.fy (hon.fy h.fy h.lo) (fun b hb=>by simp at hb;exact hb ▸ h.lc)
 ·intro b hb
  rcases hS b hb with h1 | h1
  ·exact h.lo b h1
  ·omega
 ·intro p hp
  obtain⟨h1,h2,h4,h5⟩:=h.kb p hp;have h6:=(hon.block p.1 (blt h1) h5).trans h1;refine⟨(a0.block p.1 (blt h6) (by simpa using h2)).trans h6,h2,h4,fun hm=>?_⟩;rcases hS p.1 hm with h7 | h7
  ·exact h5 h7
  ·have:=(blt h1)
   omega
theorem ie.grow {bad:Bool} (h:ie B Y W Ra gc bad m):fu Y W:=by
 obtain⟨A,c,S,Ao,co,So,h⟩:=h;exact h.fy
theorem ie.up {bad:Bool} (h:ie B Y W Ra gc bad m):ie B Y W (Ra+1) gc bad m:=by
 obtain⟨A,c,S,Ao,co,So,h⟩:=h;exact⟨A,c,S,Ao,co,So,h.WA,h.stack,h.out,h.jj,h.cs,⟨h.ok.len,by have:=h.ok.out;omega,h.ok.pc,h.ok.sp,h.ok.fp,h.ok.st,h.ok.va⟩,h.fy,h.lc,h.ls,h.lo,h.kb⟩
theorem iE.up {f:fv->X fv}{B:Q (Nat × Obj)}{Y:U}{Ra gc:Nat}{bad:Bool}{m:fv}{r:Ending}{W':U}(h:iE f B Y Ra gc bad m r W'):iE f B Y (Ra+1) gc bad m r W':=by
 obtain⟨h1,b,m',h2,h3⟩:=h;exact⟨h1,b,m',h2.up,h3⟩
end Go.Proofs.YthgbglbaemelhaaGreat
