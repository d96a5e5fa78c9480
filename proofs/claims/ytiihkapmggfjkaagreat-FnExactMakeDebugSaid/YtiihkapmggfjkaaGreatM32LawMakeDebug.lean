/-
  PART.
-/
import Derived.Test.YtiihkapmggfjkaaGreatM26LawMakeDebug
import Derived.Test.YtiihkapmggfjkaaGreatM31LawMakeDebug
set_option linter.unusedVariables false
set_option linter.unusedSimpArgs false
set_option maxRecDepth 100000
set_option maxHeartbeats 8000000
namespace Go.Proofs.YtiihkapmggfjkaaGreat
open Value renaming slice->J,int->F,bool->X
open IntKind renaming i64->I,wrap->Ll
open Option renaming none->V,some->H
open Obj renaming cells->C
open Bool renaming false->U,true->M
open Go renaming World->N,results->Ly,Value->LA,Calls->LR,Addr->Mh,yielded->NA
open World renaming cell?->Lg,frozen?->LD
open List renaming length_cons->LJ,length_nil->Mk,nil_append->Mw
open Region renaming wanted->MI,ready->MK,Mode->Nz,noSelect->ND,free->Oq
open Tryz
open Go.RowKit
variable {A' Af Ai:K Mh}{L S' Sf Si:Q Nat}{P:ig}{T:gT}{W W' W1 W2:N}{arg change code d i line n:Int}{c' cf ci g:Nat}{chain fs:Q Int}{e:TypeId}{m m':fW}{o0 o1 o2 o3 o4 o5 o6 o7 v7:LA}{s x:fL}{st:Bool}
structure iQ (P:ig)(m:fW)(fs:Q Int)(W:N)(Ai:K Mh)(ci:Nat)(Si:Q Nat)(Af:K Mh)(cf:Nat)(Sf:Q Nat):Prop where
 box:W.heap[P.g]?=H (C #[J P.A P.E.p.length P.c,F I P.b.Frames,F I P.E.inl,X P.b.Fold,X P.b.Split,X P.E.gm,F I P.E.words,F I m.gK,J Ai m.items.length ci,F I m.depth,J Af fs.length cf] 271 (0,0))
 its:Has (lL.sl 131) W [J Ai m.items.length ci] m.items Si
 ins:Has (zF.sl 3) W [J Af fs.length cf] fs Sf
 kZ:∀ b∈Si,b∉Sf
 gn:P.g∉Si/\P.g∉Sf
 fO:fF P.Y W
 low:P.Y.heap.size<=P.g/\(∀ b∈Si,P.Y.heap.size<=b)/\∀ b∈Sf,P.Y.heap.size<=b
def jI (P:ig)(m:fW)(fs:Q Int)(W:N)(L:Q Nat):Prop:=
 ∃ Ai ci Si Af cf Sf,iQ P m fs W Ai ci Si Af cf Sf/\L=P.g::(Si++Sf)
def gR (P:ig)(m':fW)(fs':Q Int)(W:N)(L:Q Nat)(W':N):Prop:=
 ∃ L',jI P m' fs' W' L'/\fJ L W W'/\∀ b∈L',b∈L∨W.heap.size<=b
theorem oX {o8 o9 o10:LA} (h:W.heap[g]?=H (C #[o0,o1,o2,o3,o4,o5,o6,o7,o8,o9,o10] e (0,0))) :
  Lg W ⟨g,0,V⟩=H o0/\Lg W ⟨g,1,V⟩=H o1/\Lg W ⟨g,2,V⟩=H o2/\Lg W ⟨g,3,V⟩=H o3/\Lg W ⟨g,4,V⟩=H o4/\Lg W ⟨g,5,V⟩=H o5/\Lg W ⟨g,6,V⟩=H o6/\Lg W ⟨g,7,V⟩=H o7/\Lg W ⟨g,8,V⟩=H o8/\Lg W ⟨g,9,V⟩=H o9/\Lg W ⟨g,10,V⟩=H o10/\(∀ j,LD W ⟨g,j,V⟩=U)/\g<W.heap.size:=by
 refine⟨?_,?_,?_,?_,?_,?_,?_,?_,?_,?_,?_,fun j=>by simp[LD,h],(blt h)⟩
 all_goals
  rw[MD W g _ _ _ (0,0) h]
  rfl
theorem jI.iX (h:jI P m fs W L):P.g∈L/\P.g<W.heap.size/\(∀ b∈L,b<W.heap.size)/\(∀ b∈L,P.Y.heap.size<=b)/\fF P.Y W:=by
 obtain⟨Ai,ci,Si,Af,cf,Sf,h,rfl⟩:=h;have hg:=(blt h.box)
 refine⟨by simp,hg,fun b hb=>?_,fun b hb=>?_,h.fO⟩
 ·rcases LU.1 hb with rfl | hb
  ·exact hg
  ·rcases LG.1 hb with hb | hb
   ·exact h.its.lt b hb
   ·exact h.ins.lt b hb
 ·rcases LU.1 hb with rfl | hb
  ·exact h.low.1
  ·rcases LG.1 hb with hb | hb
   ·exact h.low.2.1 b hb
   ·exact h.low.2.2 b hb
theorem gR.refl {P:ig}{m:fW}{fs:Q Int}{W:N}{L:Q Nat}(h:jI P m fs W L):gR P m fs W L W:=
 ⟨L,h,fJ.refl _ _,fun _ hb=>.inl hb⟩
theorem gR.trans {m2:fW} {f2:Q Int} {L1:Q Nat} (ho:fJ L W W1)(hl:∀ b∈L1,b∈L∨W.heap.size<=b)(k:gR P m2 f2 W1 L1 W2):gR P m2 f2 W L W2:=by
 exact mS
theorem jI.fO {P:ig}{m:fW}{fs:Q Int}{W W':N}{L:Q Nat}(h:jI P m fs W L)(hg:fF W W'):jI P m fs W' L:=by
 obtain⟨Ai,ci,Si,Af,cf,Sf,h,rfl⟩:=h;exact⟨Ai,ci,Si,Af,cf,Sf,⟨zj h.box hg,h.its.fO hg,h.ins.fO hg,h.kZ,h.gn,h.fO.trans hg,h.low⟩,rfl⟩
theorem gR.fO {P:ig}{m:fW}{fs:Q Int}{W W' W2:N}{L:Q Nat}(h:gR P m fs W L W')(hg:fF W' W2):gR P m fs W L W2:=by
 obtain⟨L',h1,h2,h3⟩:=h;exact⟨L',h1.fO hg,h2.trans (hg.only L),h3⟩
theorem gR.from (hg:fF W W1)(h:gR P m fs W1 L W2):gR P m fs W L W2:=by
 exact mU
theorem jI.cells (h:jI P m fs W L):∃ Ai ci Af cf,
  Lg W ⟨P.g,0,V⟩=H (J P.A P.E.p.length P.c)/\Lg W ⟨P.g,2,V⟩=H (F I P.E.inl)/\Lg W ⟨P.g,5,V⟩=H (X P.E.gm)/\Lg W ⟨P.g,6,V⟩=H (F I P.E.words)/\Lg W ⟨P.g,7,V⟩=H (F I m.gK)/\Lg W ⟨P.g,8,V⟩=H (J Ai m.items.length ci)/\Lg W ⟨P.g,9,V⟩=H (F I m.depth)/\Lg W ⟨P.g,10,V⟩=H (J Af fs.length cf)/\(∀ j,LD W ⟨P.g,j,V⟩=U)/\P.g<W.heap.size:=by
 obtain⟨Ai,ci,Si,Af,cf,Sf,h,rfl⟩:=h;obtain⟨z0,z1,z2,z3,z4,z5,z6,z7,z8,z9,a0,zf,zl⟩:=oX h.box;exact⟨Ai,ci,Af,cf,z0,z2,z5,z6,z7,z8,z9,a0,zf,zl⟩
theorem iQ.fU {P:ig}{m:fW}{fs:Q Int}{W W':N}{Ai Af:K Mh}{ci cf:Nat}{Si Sf S:Q Nat}(h:iQ P m fs W Ai ci Si Af cf Sf)(ho:fJ S W W')(hS:∀ b∈S,b≠P.g/\b∉Si/\b∉Sf/\P.Y.heap.size<=b):iQ P m fs W' Ai ci Si Af cf Sf:=
 ⟨(ho.block P.g (blt h.box) (fun hm=>(hS _ hm).1 rfl)).trans h.box,h.its.fU ho (fun b hb hm=>(hS b hm).2.1 hb),h.ins.fU ho (fun b hb hm=>(hS b hm).2.2.1 hb),h.kZ,h.gn,ho.fO h.fO (fun b hb=>(hS b hb).2.2.2),h.low⟩
theorem iQ.grow (h:iQ P m fs W Ai ci Si Af cf Sf)(hg:fF W W'):iQ P m fs W' Ai ci Si Af cf Sf:=
 ⟨zj h.box hg,h.its.fO hg,h.ins.fO hg,h.kZ,h.gn,h.fO.trans hg,h.low⟩
theorem jI.fU {P:ig}{m:fW}{fs:Q Int}{W W':N}{L S:Q Nat}(h:jI P m fs W L)(ho:fJ S W W')(hS:∀ b∈S,b∉L/\P.Y.heap.size<=b):jI P m fs W' L:=by
 obtain⟨Ai,ci,Si,Af,cf,Sf,h,rfl⟩:=h;exact⟨Ai,ci,Si,Af,cf,Sf,h.fU ho (fun b hb=>⟨fun e=>(hS b hb).1 (by simp[e]),fun hm=>(hS b hb).1 (by simp[hm]),fun hm=>(hS b hb).1 (by simp[hm]),(hS b hb).2⟩),rfl⟩
theorem iQ.num (h:iQ P m fs W Ai ci Si Af cf Sf){i:Nat}{v:LA}(hi:m'.items=m.items)
  (hrow:∀ a b c d e f g x y,(#[a,b,c,d,e,f,g,F I m.gK,x,F I m.depth,y]:Array LA).setIfInBounds i v=#[a,b,c,d,e,f,g,F I m'.gK,x,F I m'.depth,y]) :
  iQ P m' fs (W.setCell ⟨P.g,i,V⟩ v) Ai ci Si Af cf Sf/\fJ [P.g] W (W.setCell ⟨P.g,i,V⟩ v):=by
 have a0:fJ [P.g] W (W.setCell ⟨P.g,i,V⟩ v):=(fJ.refl _ _).setCell (p:=⟨P.g,i,V⟩) (by simp) _;refine⟨⟨jo (i:=i) (v:=v) h.box (by rw[hrow,hi]),?_,?_,h.kZ,h.gn,a0.fO h.fO (fun b hb=>by simp at hb;exact hb ▸ h.low.1),h.low⟩,a0⟩
 ·rw[hi]
  exact h.its.fU a0 (fun x hx hm=>by simp at hm;exact h.gn.1 (hm ▸ hx))
 ·exact h.ins.fU a0 (fun x hx hm=>by simp at hm;exact h.gn.2 (hm ▸ hx))
theorem jI.num {P:ig}{m m':fW}{fs:Q Int}{W:N}{L:Q Nat}(h:jI P m fs W L){i:Nat}{v:LA}(hi:m'.items=m.items)
  (hrow:∀ a b c d e f g x y,(#[a,b,c,d,e,f,g,F I m.gK,x,F I m.depth,y]:Array LA).setIfInBounds i v=#[a,b,c,d,e,f,g,F I m'.gK,x,F I m'.depth,y]) :
  jI P m' fs (W.setCell ⟨P.g,i,V⟩ v) L/\fJ L W (W.setCell ⟨P.g,i,V⟩ v):=by
 obtain⟨Ai,ci,Si,Af,cf,Sf,h,rfl⟩:=h;obtain⟨h1,h2⟩:=h.num (i:=i) (v:=v) hi hrow;exact⟨⟨Ai,ci,Si,Af,cf,Sf,h1,rfl⟩,h2.mono (by simp)⟩
theorem gR.num (h:gR P m fs W L W'){i:Nat}{v:LA}(hi:m'.items=m.items)
  (hrow:∀ a b c d e f g x y,(#[a,b,c,d,e,f,g,F I m.gK,x,F I m.depth,y]:Array LA).setIfInBounds i v=#[a,b,c,d,e,f,g,F I m'.gK,x,F I m'.depth,y]) :
  gR P m' fs W L (W'.setCell ⟨P.g,i,V⟩ v):=by
 exact sT
theorem iQ.items {Sy:Q Nat} {its':Q fS} (h:iQ P m fs W Ai ci Si Af cf Sf)
  (hy:∀ b∈Sy,b≠P.g/\b∉Sf/\P.Y.heap.size<=b) (hon:fJ Si W W') (hH:Has (lL.sl 131) W' [J A' its'.length c'] its' S') (hS:∀ b∈S',b∈Si∨b∈Sy∨W.heap.size<=b) :
  iQ P (m.gU its') fs (W'.setCell ⟨P.g,8,V⟩ (J A' its'.length c')) A' c' S' Af cf Sf/\fJ (P.g::(Si++Sf)) W (W'.setCell ⟨P.g,8,V⟩ (J A' its'.length c')):=by
 have a4:=(blt h.box)
 have a3:=(hon.block P.g a4 h.gn.1).trans h.box;have a0:fJ [P.g] W' (W'.setCell ⟨P.g,8,V⟩ (J A' its'.length c')):=(fJ.refl _ _).setCell (p:=⟨P.g,8,V⟩) (by simp) _;have a6:=h.fO.size
 have a1:P.g∉S':=fun hm=>by
  rcases hS _ hm with h1 | h1 | h1
  ·exact h.gn.1 h1
  ·exact(hy _ h1).1 rfl
  ·omega
 have a2:∀ b∈S',b∉Sf:=fun b hb hm=>by
  rcases hS b hb with h1 | h1 | h1
  ·exact h.kZ b h1 hm
  ·exact(hy b h1).2.1 hm
  ·have:=h.ins.lt b hm;omega
 have a5:∀ b∈S',P.Y.heap.size<=b:=fun b hb=>by
  rcases hS b hb with h1 | h1 | h1
  ·exact h.low.2.1 b h1
  ·exact(hy b h1).2.2
  ·omega
 refine⟨⟨jo (i:=8) (v:=J A' its'.length c') a3 rfl,hH.fU a0 (fun b hb hm=>by simp at hm;exact a1 (hm ▸ hb)),(h.ins.fU hon (fun b hb hm=>h.kZ b hm hb)).fU a0 (fun b hb hm=>by simp at hm;exact h.gn.2 (hm ▸ hb)),a2,⟨a1,h.gn.2⟩,a0.fO (hon.fO h.fO h.low.2.1) (fun b hb=>by simp at hb;exact hb ▸ h.low.1),⟨h.low.1,a5,h.low.2.2⟩⟩,?_⟩;exact(hon.mono (fun b hb=>by simp[hb])).trans (a0.mono (fun b hb=>by simp at hb;simp[hb]))
theorem iQ.inside {fs':Q Int} (h:iQ P m fs W Ai ci Si Af cf Sf)
  (hon:fJ Sf W W') (hH:Has (zF.sl 3) W' [J A' fs'.length c'] fs' S') (hS:∀ b∈S',b∈Sf∨W.heap.size<=b) :
  iQ P m fs' (W'.setCell ⟨P.g,10,V⟩ (J A' fs'.length c')) Ai ci Si A' c' S'/\fJ (P.g::(Si++Sf)) W (W'.setCell ⟨P.g,10,V⟩ (J A' fs'.length c')):=by
 have a4:=(blt h.box)
 have a3:=(hon.block P.g a4 h.gn.2).trans h.box;have a0:fJ [P.g] W' (W'.setCell ⟨P.g,10,V⟩ (J A' fs'.length c')):=(fJ.refl _ _).setCell (p:=⟨P.g,10,V⟩) (by simp) _;have a6:=h.fO.size
 have a1:P.g∉S':=fun hm=>by
  rcases hS _ hm with h1 | h1
  ·exact h.gn.2 h1
  ·omega
 have a2:∀ b∈Si,b∉S':=fun b hb hm=>by
  rcases hS b hm with h1 | h1
  ·exact h.kZ b hb h1
  ·have:=h.its.lt b hb;omega
 have a5:∀ b∈S',P.Y.heap.size<=b:=fun b hb=>by
  rcases hS b hb with h1 | h1
  ·exact h.low.2.2 b h1
  ·omega
 refine⟨⟨jo (i:=10) (v:=J A' fs'.length c') a3 rfl,(h.its.fU hon (fun b hb hm=>h.kZ b hb hm)).fU a0 (fun b hb hm=>by simp at hm;exact h.gn.1 (hm ▸ hb)),hH.fU a0 (fun b hb hm=>by simp at hm;exact a1 (hm ▸ hb)),a2,⟨h.gn.1,a1⟩,a0.fO (hon.fO h.fO h.low.2.2) (fun b hb=>by simp at hb;exact hb ▸ h.low.1),⟨h.low.1,h.low.2.1,a5⟩⟩,?_⟩;exact(hon.mono (fun b hb=>by simp[hb])).trans (a0.mono (fun b hb=>by simp at hb;simp[hb]))
theorem jI.item (h:jI P m fs W L){j:Nat}{x:fS}(hx:m.items[j]?=H x) :
  ∃ gi ci,Lg W ⟨P.g,8,V⟩=H (J (H ⟨gi,0,V⟩) m.items.length ci)/\gi<W.heap.size/\gi≠P.g/\(∀ k,LD W ⟨gi,k,V⟩=U)/\Lg W ⟨gi,j*7+1,V⟩=H (F I x.Op.Arg)/\Lg W ⟨gi,j*7+3,V⟩=H (X x.Start)/\
   (∀ v,fV v->jI P (m.gU (zL m.items j v)) fs (W.setCell ⟨gi,j*7+1,V⟩ (F I v)) L/\fJ L W (W.setCell ⟨gi,j*7+1,V⟩ (F I v)))/\
   (∀ v,jI P (m.gU (m.items.set j { x with Start:=v })) fs (W.setCell ⟨gi,j*7+3,V⟩ (X v)) L/\fJ L W (W.setCell ⟨gi,j*7+3,V⟩ (X v))):=by
 obtain⟨Ai,ci,Si,Af,cf,Sf,h,rfl⟩:=h;obtain⟨gi,ec,Sc,rfl,aa,ab,ad,ac,ae,hO,a9,a0,a2,_⟩:=mN h.its.1 h.its.2 hx;obtain⟨A0,c0,S0,rfl,a6,b0,b1,b2,a4,b4⟩:=Aw hO;subst a6;have hz:lL.size=7:=rfl;rw[hz] at a0 a2;have a7:=a0 1 _ rfl;have a8:=a0 3 _ rfl;obtain⟨z0,z1,z2,z3,z4,z5,z6,z7,z8,z9,af,zf,zl⟩:=oX h.box
 have a1:∀(y:fS) (i:Nat) (v:LA),Has (lL.sl 131) (W.setCell ⟨gi,j*7+i,V⟩ v) [J (H ⟨gi,0,V⟩) m.items.length ci] (m.items.set j y) Si->fJ Si W (W.setCell ⟨gi,j*7+i,V⟩ v)->
   jI P (m.gU (m.items.set j y)) fs (W.setCell ⟨gi,j*7+i,V⟩ v) (P.g::(Si++Sf))/\fJ (P.g::(Si++Sf)) W (W.setCell ⟨gi,j*7+i,V⟩ v):=fun y i v hH ho=>by
  have a5:(m.items.set j y).length=m.items.length:=Ma ..;refine⟨⟨H ⟨gi,0,V⟩,ci,Si,Af,cf,Sf,⟨?_,?_,h.ins.fU ho (fun b hb hm=>h.kZ b hm hb),h.kZ,h.gn,ho.fO h.fO h.low.2.1,h.low⟩,rfl⟩,ho.mono (fun b hb=>by simp[hb])⟩
  ·have hm:=(ho.block P.g (blt h.box) h.gn.1).trans h.box
   simp only[fW.gU,a5];exact hm
  ·simp only[fW.gU,a5]
   exact hH
 refine⟨gi,ci,z8,ab,fun e=>h.gn.1 (e ▸ aa),a9,a7,a8,fun v hv=>?_,fun v=>?_⟩
 ·have hp:=a2 1 (F I v) { x with Op:=⟨x.Op.Code,v⟩ } (by decide) rfl (tm (x:={ x with Op:=⟨x.Op.Code,v⟩ }) A0 c0 Sc b0 hv b2 a4 b4)
  have a3:zL m.items j v=m.items.set j { x with Op:=⟨x.Op.Code,v⟩ }:=by unfold zL;rw[hx]
  rw[a3];exact a1 _ 1 _ ⟨hp.1,h.its.2⟩ hp.2
 ·have hp:=a2 3 (X v) { x with Start:=v } (by decide) rfl (tm (x:={ x with Start:=v }) A0 c0 Sc b0 b1 b2 a4 b4)
  exact a1 _ 3 _ ⟨hp.1,h.its.2⟩ hp.2
structure iM where
 gs:Nat
 e:Int
 args:Int
 base:Int
structure iU (T:gT)(Z:iM)(s:fL)(v7:LA)(W:N)(L:Q Nat):Prop where
 box:W.heap[Z.gs]?=H (C #[F I s.f,F I Z.e,J T.Al s.locals.length T.cl,F I Z.args,F I s.first,J T.Ac s.chain.length T.cc,F I Z.base,v7] 274 (0,0))
 chain:Has (zF.sl 3) W [J T.Ac s.chain.length T.cc] s.chain T.Sc
 locals:Has (iH.sl 9) W [J T.Al s.locals.length T.cl] s.locals T.Sl
 dg:Z.gs∉L
 dc:∀ b∈T.Sc,b∉L
 dl:∀ b∈T.Sl,b∉L
theorem iU.next {Z:iM} {L':Q Nat} (h:iU T Z s v7 W L)(ho:fJ L W W')(hl:∀ b∈L',b∈L∨W.heap.size<=b):iU T Z s v7 W' L':=by
 have a0:=(blt h.box)
 refine⟨(ho.block Z.gs a0 h.dg).trans h.box,h.chain.fU ho h.dc,h.locals.fU ho h.dl,fun hm=>?_,qj h.dc h.chain.lt hl,qj h.dl h.locals.lt hl⟩;rcases hl _ hm with h1 | h1
 ·exact h.dg h1
 ·omega
theorem iU.fO {T:gT}{Z:iM}{s:fL}{v7:LA}{W W':N}{L:Q Nat}(h:iU T Z s v7 W L)(hg:fF W W'):iU T Z s v7 W' L:=
 ⟨zj h.box hg,h.chain.fO hg,h.locals.fO hg,h.dg,h.dc,h.dl⟩
theorem jA (h:W.heap[g]?=H (C #[o0,o1,o2,o3,o4,o5,o6,o7] e (0,0))) :
  Lg W ⟨g,0,V⟩=H o0/\Lg W ⟨g,1,V⟩=H o1/\Lg W ⟨g,2,V⟩=H o2/\Lg W ⟨g,3,V⟩=H o3/\Lg W ⟨g,4,V⟩=H o4/\Lg W ⟨g,5,V⟩=H o5/\Lg W ⟨g,6,V⟩=H o6/\Lg W ⟨g,7,V⟩=H o7/\(∀ j,LD W ⟨g,j,V⟩=U)/\g<W.heap.size:=by
 refine⟨?_,?_,?_,?_,?_,?_,?_,?_,fun j=>by simp[LD,h],(blt h)⟩
 all_goals
  rw[MD W g _ _ _ (0,0) h]
  rfl
theorem zd4 {Ac:K Mh} {cc gs:Nat} (h:jI P m fs W L)(hst:m.start=U)(hz:Lg W ⟨gs,5,V⟩=H (J Ac chain.length cc))
  (hc:(zF.sl 3).R W W.heap.size [J Ac chain.length cc] chain) (hcl:chain.length<=1000) (hln:m.items.length<=100000) (b0:fV code) (b1:fV arg) (b2:fV line) (b3:fV m.depth) (b4:fV (m.depth+change)) :
  LR prog 248 #[.pointer (H ⟨P.g,0,V⟩),.pointer (H ⟨gs,0,V⟩),F I line,F I code,F I arg,F I change] W fun r W'=>r=.returned (.tuple #[])/\gR P ((zv P.E m code arg line chain).fZ (m.depth+change)) fs W L W':=by
 obtain⟨Ai,ci,Si,Af,cf,Sf,hB,rfl⟩:=h;have aE:Ll I (m.depth+change)=m.depth+change:=Of _ b4;have aC:=(blt hB.box)
 go_enter func248,ntmps248;go_upto_region 0 with(fail);go_cut [12] from 12 to 24 (fun v wx=>∃(g3:Nat) (B1:K Mh) (d1:Nat) (S1:Q Nat),v=.pointer (H ⟨g3,0,V⟩)/\Hid (fF W wx)/\Hid (wx.heap[g3]?=H (C #[F I code,F I arg,F I line,X U,J B1 chain.length d1,F I 0,X U] 131 (0,0)))/\Hid (Has (zF.sl 3) wx [J B1 chain.length d1] chain S1)/\Hid (∀ b∈S1,W.heap.size<=b)/\W.heap.size<=g3/\Hid (g3∉S1))
 case first=>
  have aF:=zo hz (C #[] 3);go_wp2_with(first | (at_builtin;refine qH (L:=chain.length) rfl (.tmp 17) (.tmp 21) kJ zP (S:=[W.heap.size]) (Has.emp zF (Lp _ _)) (Ty.up _ hc gF) rfl rfl rfl (Mb _).symm (by omega) (by omega) ?_;intro B1 d1 W1 S1 a4 hH hS));rw[Mw] at hH;go_meet;have ao:fF W W1:=a4.fO ((fF.refl _).alloc _) (fun b hb=>by simp at hb;omega);have az:=hH.lt;have aq:=ao.size;exact⟨W1.heap.size,B1,d1,S1,rfl,fE (ao.alloc _),fE (Lp _ _),fE (hH.fO ((fF.refl _).alloc _)),fE (fun b hb=>by rcases hS b hb with h | h;simp at h;omega;simp at h;omega),aq,fE (fun hm=>by have:=az _ hm;omega)⟩
 case rest=>
  obtain⟨g3,B1,d1,S1,rfl,ad,ho,af,hlW,ap,ag⟩:=hcut;replace ad:=ad.out;replace ho:=ho.out;replace af:=af.out;replace hlW:=hlW.out;replace ag:=ag.out;have ae:=hB.grow ad;have ah:=hB;have aD:P.g≠g3:=by omega
  have ak:g3≠P.g:=by omega
  have ab:∀ b∈[g3],b≠P.g/\b∉Si/\b∉Sf/\P.Y.heap.size<=b:=fun b hb=>by
   simp at hb;subst hb;exact⟨ak,fun hm=>by have:=hB.its.lt _ hm;omega,fun hm=>by have:=hB.ins.lt _ hm;omega,by have:=hB.low.1;omega⟩
  obtain⟨o0,o1,o2,o3,o4,o5,o6,of,ol⟩:=mr ho;obtain⟨z0,z1,z2,z3,z4,z5,z6,z7,z8,z9,al,zf,zl⟩:=oX ae.box;clear hB hz hc
  obtain⟨x,hx,ay⟩:∃ x,mD P.E m code arg line chain=x/\((P.E.gm=M/\0<m.items.length/\x=⟨⟨code,arg⟩,line,U,chain,0,M⟩)∨(P.E.gm=M/\¬ 0<m.items.length/\x=⟨⟨code,arg⟩,line,U,chain,m.depth,U⟩)∨(P.E.gm=U/\True/\x=⟨⟨code,arg⟩,line,U,chain,m.depth,U⟩)):=by
   refine⟨_,rfl,?_⟩;by_cases a6:P.E.gm=M
   ·by_cases h0:0<m.items.length
    ·exact .inl ⟨a6,h0,by unfold mD;simp[a6,h0,hst]⟩
    ·exact .inr (.inl ⟨a6,h0,by unfold mD;simp[h0,hst]⟩)
   ·have ac:P.E.gm=U:=by simpa using a6
    exact .inr (.inr ⟨ac,trivial,by unfold mD;simp[ac,hst]⟩)
  rcases ay with⟨a6,h0,a7⟩ | ⟨a6,h0,a7⟩ | ⟨a6,h0,a7⟩
  all_goals rw[a6] at z5
  case' inl=>
   have ar:(m.items.length:Int) > 0:=by omega
   have au:0<(m.items.length:Int):=by omega
   have e1:=jo (i:=6) (v:=X M) ho rfl;have a5:fJ [g3] wc (wc.setCell ⟨g3,6,V⟩ (X M)):=(fJ.refl _ _).setCell (p:=⟨g3,6,V⟩) (by simp) _;have a3:=ae.fU a5 ab;have a8:fJ (P.g::(Si++Sf)) W (wc.setCell ⟨g3,6,V⟩ (X M)):=(ad.only _).then (a5.mono (S':=[g3]) (fun _ h=>h)) (fun b hb=>by simp at hb;subst hb;exact .inr ap);have a9:=af.fU a5 (fun b hb hm=>by simp at hm;exact ag (hm ▸ hb))
   have aa:Has lL (wc.setCell ⟨g3,6,V⟩ (X M)) [F I x.Op.Code,F I x.Op.Arg,F I x.fN,X x.Start,J B1 x.fH.length d1,F I x.fK,X x.fI] x S1:=by
    subst a7;exact⟨tm B1 d1 S1 b0 b1 b2 a9.1 ((⟨by decide,by decide⟩:fV 0)),a9.2⟩
   have e5:(wc.setCell ⟨g3,6,V⟩ (X M)).heap[g3]?=H (C #[F I x.Op.Code,F I x.Op.Arg,F I x.fN,X x.Start,J B1 x.fH.length d1,F I x.fK,X x.fI] 131 (0,0)):=by subst a7;exact e1
   clear a7 e1 a5 a9;go_upto_region 4 with(fail);generalize (wc.setCell _ _)=W5 at a3 a8 aa e5 |-
  case' inr.inl=>
   have ar:¬ ((m.items.length:Int) > 0):=by omega
   have au:¬ (0<(m.items.length:Int)):=by omega
  case' inr.inl | inr.inr=>
   have e1:=jo (i:=5) (v:=F I m.depth) ho rfl;have a5:fJ [g3] wc (wc.setCell ⟨g3,5,V⟩ (F I m.depth)):=(fJ.refl _ _).setCell (p:=⟨g3,5,V⟩) (by simp) _;have a3:=ae.fU a5 ab;have a8:fJ (P.g::(Si++Sf)) W (wc.setCell ⟨g3,5,V⟩ (F I m.depth)):=(ad.only _).then (a5.mono (S':=[g3]) (fun _ h=>h)) (fun b hb=>by simp at hb;subst hb;exact .inr ap);have a9:=af.fU a5 (fun b hb hm=>by simp at hm;exact ag (hm ▸ hb))
   have aa:Has lL (wc.setCell ⟨g3,5,V⟩ (F I m.depth)) [F I x.Op.Code,F I x.Op.Arg,F I x.fN,X x.Start,J B1 x.fH.length d1,F I x.fK,X x.fI] x S1:=by
    subst a7;exact⟨tm B1 d1 S1 b0 b1 b2 a9.1 (b3),a9.2⟩
   have e5:(wc.setCell ⟨g3,5,V⟩ (F I m.depth)).heap[g3]?=H (C #[F I x.Op.Code,F I x.Op.Arg,F I x.fN,X x.Start,J B1 x.fH.length d1,F I x.fK,X x.fI] 131 (0,0)):=by subst a7;exact e1
   clear a7 e1 a5 a9;go_upto_region 4 with(fail);generalize (wc.setCell _ _)=W5 at a3 a8 aa e5 |-
  all_goals
   have HX:=fE hx
   clear hx
   have aj:∀ b∈Si,b∉S1:=fun b hb hm=>by have h1:=hlW b hm;have h2:=ah.its.lt b hb;omega
   have hy:∀ b∈S1,b≠P.g/\b∉Sf/\P.Y.heap.size<=b:=fun b hb=>⟨fun h=>by have h1:=hlW b hb;omega,fun hm=>by have h1:=hlW b hb;have h2:=ah.ins.lt b hm;omega,by have h1:=hlW b hb;have h2:=ah.fO.size;omega⟩
   have a1:g3∉Si:=fun hm=>(ab g3 (by simp)).2.1 hm
   clear ae ho
   clear z0 z1 z2 z3 z4 z5 z6 z7 z8 z9 al zf zl o0 o1 o2 o3 o4 o5 o6 of ol
   obtain⟨z0,z1,z2,z3,z4,z5,z6,z7,z8,z9,al,zf,zl⟩:=oX a3.box
   obtain⟨q0,q1,q2,q3,q4,q5,q6,qf,ql⟩:=mr e5
   have y8:Lg W5 ⟨P.g,8,V⟩=H (J Ai m.items.length ci):=z8
   clear z0 z1 z2 z3 z4 z5 z6 z7 z8 z9 al zf zl qf ql
   refine kC (fun w'=>Lg w' ⟨P.g,8,V⟩=H (J Ai m.items.length ci)/\Lg w' ⟨g3,0,V⟩=H (F I x.Op.Code)/\Lg w' ⟨g3,1,V⟩=H (F I x.Op.Arg)/\Lg w' ⟨g3,2,V⟩=H (F I x.fN)/\Lg w' ⟨g3,3,V⟩=H (X x.Start)/\Lg w' ⟨g3,4,V⟩=H (J B1 x.fH.length d1)/\Lg w' ⟨g3,5,V⟩=H (F I x.fK)/\Lg w' ⟨g3,6,V⟩=H (X x.fI)) 10 (by kernel_rfl) ⟨zb y8,zb q0,zb q1,zb q2,zb q3,zb q4,zb q5,zb q6⟩ (fun a2=>?_)
   have a3:=a3.grow ((fF.refl W5).drew)
   have aa:=aa.fO ((fF.refl W5).drew)
   have a8:=a8.trans (((fF.refl W5).drew).only _)
   clear y8 q0 q1 q2 q3 q4 q5 q6 e5
   generalize W5.drew=Wd at a3 aa a8 a2 |-
   have ax:=a2
   obtain⟨y8,q0,q1,q2,q3,q4,q5,q6⟩:=ax
   refine .tq 0 [10] a2 ?_
   try simp only[kT]
   refine .tq 1 [10] a2 ?_
   try simp only[kT]
   refine .tq 2 [10] a2 ?_
   try simp only[kT]
   refine .tq 3 [10] a2 ?_
   try simp only[kT]
   refine .tq 4 [10] a2 ?_
   try simp only[kT]
   refine .tq 5 [10] a2 ?_
   try simp only[kT]
   refine fX.s1 6 (fun Le hK=>?_)
   go_simp
   have a2:=Ls (zo y8 (C #[F I x.Op.Code,F I x.Op.Arg,F I x.fN,X x.Start,J B1 x.fH.length d1,F I x.fK,X x.fI] 131)) (Ls (zo q0 (C #[F I x.Op.Code,F I x.Op.Arg,F I x.fN,X x.Start,J B1 x.fH.length d1,F I x.fK,X x.fI] 131)) (Ls (zo q1 (C #[F I x.Op.Code,F I x.Op.Arg,F I x.fN,X x.Start,J B1 x.fH.length d1,F I x.fK,X x.fI] 131)) (Ls (zo q2 (C #[F I x.Op.Code,F I x.Op.Arg,F I x.fN,X x.Start,J B1 x.fH.length d1,F I x.fK,X x.fI] 131)) (Ls (zo q3 (C #[F I x.Op.Code,F I x.Op.Arg,F I x.fN,X x.Start,J B1 x.fH.length d1,F I x.fK,X x.fI] 131)) (Ls (zo q4 (C #[F I x.Op.Code,F I x.Op.Arg,F I x.fN,X x.Start,J B1 x.fH.length d1,F I x.fK,X x.fI] 131)) (Ls (zo q5 (C #[F I x.Op.Code,F I x.Op.Arg,F I x.fN,X x.Start,J B1 x.fH.length d1,F I x.fK,X x.fI] 131)) (zo q6 (C #[F I x.Op.Code,F I x.Op.Arg,F I x.fN,X x.Start,J B1 x.fH.length d1,F I x.fK,X x.fI] 131))))))))
   refine hK.out _ _ a2 ?_
   clear hK
   try simp only[kT]
   refine fX.s1 7 (fun Le hK=>?_)
   have a0:fF Wd (Wd.alloc (C #[F I x.Op.Code,F I x.Op.Arg,F I x.fN,X x.Start,J B1 x.fH.length d1,F I x.fK,X x.fI] 131)):=(fF.refl _).alloc _
   refine xk (L:=m.items.length+1) rfl (.tmp 46) (.tmp 48) Eu (a3.its.fO a0) (aa.fO a0) aj rfl rfl rfl (by intro j u hu;simpa[go_sem] using hu) rfl (by omega) (by omega) ?_
   intro A7 c7 W7 S7 a4 av hS7
   have a2:=Ls (kG y8 a0 a4 a3.gn.1) (Ls (kG q0 a0 a4 a1) (Ls (kG q1 a0 a4 a1) (Ls (kG q2 a0 a4 a1) (Ls (kG q3 a0 a4 a1) (Ls (kG q4 a0 a4 a1) (Ls (kG q5 a0 a4 a1) (kG q6 a0 a4 a1)))))))
   have ai:=(a3.grow a0).items (its':=m.items++[x]) (A':=A7) (c':=c7) (Sy:=S1) hy a4 (by simpa using av) (fun b hb=>by rcases hS7 b hb with h | h | h;exact .inl h;exact .inr (.inl h);exact .inr (.inr h))
   have an:=(a4.block P.g (Np.1 (a3.grow a0).box).1 a3.gn.1).trans (a3.grow a0).box
   obtain⟨_,_,_,_,_,_,_,_,_,_,_,zf,zl⟩:=oX an
   clear an
   refine hK.out _ _ a2 ?_
   clear hK
   try simp only[kT]
   refine .tq 8 [9,10] a2 ?_
   try simp only[kT]
   refine .tq 9 [10] a2 ?_
   try simp only[kT]
   refine fX.sl (fun Le hK=>?_)
   go_simp
   refine hK.out _ _ ?_
   clear hK
   try simp only[kT]
   simp only[Lj,LJ,Mk,Mb] at ai
   have aq:=(a8.trans (a0.only (P.g::(Si++Sf)))).size
   have aB:=(a8.trans (a0.only _)).trans ai.2
   have aw:∀ b∈P.g::(S7++Sf),b∈P.g::(Si++Sf)∨W.heap.size<=b:=fun b hb=>by
    exact se
   have am:=ai.1
   obtain⟨k0,k1,k2,k3,k4,k5,k6,k7,k8,k9,aA,kf,kl⟩:=oX am.box
   replace k9:(W7.setCell ⟨P.g,8,V⟩ (J A7 (m.items.length+1) c7)).cell? ⟨P.g,9,V⟩=H (F I m.depth):=k9
   clear k0 k1 k2 k3 k4 k5 k6 k7 k8 aA
   skip
   go_wp2_with(fail)
   have hN:=am.num (i:=9) (v:=F I (m.depth+change)) (m':=(m.gU (m.items++[x])).fZ (m.depth+change)) rfl (fun _ _ _ _ _ _ _ _ _=>rfl)
   have hE:(zv P.E m code arg line chain).fZ (m.depth+change)=(m.gU (m.items++[x])).fZ (m.depth+change):=by unfold zv fW.gU fW.fZ;rw[HX.out,hst]
   exact MF (v:=.tuple #[]) (by simp[Ly,results248,go_sem]) rfl ⟨rfl,by rw[hE];exact⟨_,⟨A7,c7,S7,Af,cf,Sf,(by simpa[fW.gU,fW.fZ] using hN.1),rfl⟩,aB.then hN.2 (fun b hb=>.inl (by simp at hb;simp[hb])),aw⟩⟩
def nS (E:gd)(Z:iM)(s:fL):Prop:=(s.outer=M/\s.chain = []/\Z.args=E.args/\s.first=0)∨(s.outer=U/\0<s.chain.length)
theorem iu (h : -9223372036854775808<=n/\n<=9223372036854775807):fV n:=h
theorem gR.qD (h:gR P m fs W1 L W2)(hg:fF W W1):gR P m fs W L W2:=gR.from hg h
def nW (E:gd)(m:fW)(s:fL)(i line:Int)(st:Bool):fW:=if st=M then jC E m s i line s.chain else wS E m s i line
theorem wE {E:gd} (hc:(kQ E m.depth s i st).1=code)(ha:(kQ E m.depth s i st).2=arg)(hx:change=if st=M then -1 else 1):nW E m s i line st=(zv E m code arg line s.chain).fZ (m.depth+change):=by
 subst hc ha hx;unfold nW;cases st
 ·rfl
 ·rfl
theorem gR.acc (h:gR P ((zv P.E m code arg line s.chain).fZ (m.depth+change)) fs W1 L W2)(hg:fF W W1)(hc:(kQ P.E m.depth s i st).1=code)(ha:(kQ P.E m.depth s i st).2=arg)(hx:change=if st=M then -1 else 1):gR P (nW P.E m s i line st) fs W L W2:=by
 rw[wE hc ha hx];exact h.qD hg
theorem Dw {E:gd} (ho:s.outer=M)(hi:i<E.args):kQ E d s i st=(if E.gm=M then (if st=M then 2 else 1) else (if st=M then 4 else 3),if E.gm=M then 1+E.args-i else d+E.args-i):=by
 unfold kQ;rw[Lu ho,Lu ho,Lu hi,Lu hi];congr 1;split <;> omega
theorem Dx {E:gd} (ho:s.outer=M)(hi:¬ i<E.args):kQ E d s i st=(if E.gm=M then (if st=M then 2 else 1) else (if st=M then 4 else 3),if E.gm=M then -1-(i-E.args) else d-1-(i-E.args)):=by
 unfold kQ;rw[Lu ho,Lu ho,Lt hi,Lt hi]
theorem wB {E:gd} (ho:s.outer=U):kQ E d s i st=(if E.gm=M then (if st=M then 2 else 1) else (if st=M then 4 else 3),if E.gm=M then -1-(s.first+i) else d-1-(s.first+i)):=by
 unfold kQ;rw[ho];rfl
theorem kt (h : -9223372036854775808<=n/\n<=9223372036854775807):Ll I n=n:=Of _ ⟨h.1,by omega⟩
theorem Et {a:Int} (hi:0<=i/\i<=100)(hd : -1000000<=d/\d<=1000000)(ha:0<=a/\a<=100):Ll I (i-a)=i-a/\Ll I (d-1)=d-1/\Ll I (d-1-(i-a))=d-1-(i-a)/\Ll I (d+a)=d+a/\Ll I (d+a-i)=d+a-i/\Ll I (-1-(i-a)) = -1-(i-a)/\Ll I (1+a)=1+a/\Ll I (1+a-i)=1+a-i/\Ll I (0+i)=0+i:=
 ⟨kt (by omega),kt (by omega),kt (by omega),kt (by omega),kt (by omega),kt (by omega),kt (by omega),kt (by omega),kt (by omega)⟩
theorem Es {f:Int} (hi:0<=i/\i<=100)(hd : -1000000<=d/\d<=1000000)(hf : -1000<=f/\f<=1000):Ll I (f+i)=f+i/\Ll I (d-1)=d-1/\Ll I (d-1-(f+i))=d-1-(f+i)/\Ll I (-1-(f+i)) = -1-(f+i):=
 ⟨kt (by omega),kt (by omega),kt (by omega),kt (by omega)⟩
theorem gR.word (h:gR P ((zv P.E m code arg line chain).fZ (m.depth + -1)) fs W1 L W2)(hg:fF W W1)(hc:(kQ P.E m.depth x i M).1=code)(ha:(kQ P.E m.depth x i M).2=arg):gR P (jC P.E m x i line chain) fs W L W2:=by
 subst hc ha;exact h.qD hg
theorem zpt {Z:iM} (h:jI P m fs W L)(hst:m.start=U)(hR:iU T Z s v7 W L)(ho:s.outer=M)(hc0:s.chain = [])(hza:Z.args=P.E.args)(hf0:s.first=0)(hia:i<P.E.args)(hcl:s.chain.length<=1000)(hln:m.items.length<=100000)(hi:0<=i/\i<=100)(hd : -1000000<=m.depth/\m.depth<=1000000)(hf : -1000<=s.first/\s.first<=1000)(ha:0<=P.E.args/\P.E.args<=100)(hl:fV line) :
  LR prog 262 #[.pointer (H ⟨P.g,0,V⟩),.pointer (H ⟨Z.gs,0,V⟩),F I line,F I i,X st] W fun r W'=>r=.returned (.tuple #[])/\gR P (nW P.E m s i line st) fs W L W':=by
 obtain⟨q0,q1,q2,q3,q4,q5,q6,q7,qf,ql⟩:=jA hR.box;obtain⟨Ai,ci,Af,cf,z0,z2,z5,z6,z7,z8,z9,ac,zf,zl⟩:=h.cells;have a7:=fE q5;have HC:=fE hR.chain.read;clear q0 q1 q2 q6 q7 qf z0 z2 z6 z7 z8 ac zf hR;have aa:fV m.depth:=iu (by omega);obtain⟨d,a2⟩:∃ d,m.depth=d:=⟨_,rfl⟩
 obtain⟨a,a0⟩:∃ d,P.E.args=d:=⟨_,rfl⟩
 obtain⟨f,a1⟩:∃ d,s.first=d:=⟨_,rfl⟩
 obtain⟨fr,a3⟩:∃ b,P.E.gm=b:=⟨_,rfl⟩
 have a4:=fE a3;have a6:=fE a2;have a5:=fE a0;have ad:=fE a1;rw[a3] at z5;rw[a2] at z9;have a9 : -1000000<=d/\d<=1000000:=a2 ▸ hd;have a8:0<=a/\a<=100:=a0 ▸ ha;have ab : -1000<=f/\f<=1000:=a1 ▸ hf;rw[a1] at q4;clear a3 hf ha;have HI:=fE hia;have HO:=fE ho;obtain⟨w0,w1,w2,w3,w4,w5,w6,w7,w8⟩:=Et hi a9 a8;rw[hza,a0] at q3;rw[hc0,show ([]:Q Int).length=0 from rfl] at q5;rw[hf0] at a1;subst a1;rw[a0] at hia;clear hza hc0 ho hf0 ab a0;cases fr <;> cases st
 all_goals
  go_enter func262,ntmps262
  go_wp2_with(fail)
  go_quiet (fail)
  go_wp2_with(fail)
  go_quiet (fail)
  go_wp2_with(first | (go_at_call 248;(with_reducible refine(zd4 (h.fO gF) hst (za gF a7.out) (Ty.up _ HC.out gF) hcl hln (iu (by omega)) (iu (by omega)) hl aa (iu (by omega))).mono ?_);rintro e w2 ⟨rfl,h2⟩))
  exact MF (v:=.tuple #[]) (by simp[Ly,results262,go_sem]) rfl ⟨rfl,h2.acc gF (by rw[Dw HO.out HI.out,a4.out];rfl) (by rw[Dw HO.out HI.out,a4.out,a6.out,a5.out];rfl) rfl⟩
theorem zpu {Z:iM} (h:jI P m fs W L)(hst:m.start=U)(hR:iU T Z s v7 W L)(ho:s.outer=M)(hc0:s.chain = [])(hza:Z.args=P.E.args)(hf0:s.first=0)(hia:¬ i<P.E.args)(hcl:s.chain.length<=1000)(hln:m.items.length<=100000)(hi:0<=i/\i<=100)(hd : -1000000<=m.depth/\m.depth<=1000000)(hf : -1000<=s.first/\s.first<=1000)(ha:0<=P.E.args/\P.E.args<=100)(hl:fV line) :
  LR prog 262 #[.pointer (H ⟨P.g,0,V⟩),.pointer (H ⟨Z.gs,0,V⟩),F I line,F I i,X st] W fun r W'=>r=.returned (.tuple #[])/\gR P (nW P.E m s i line st) fs W L W':=by
 obtain⟨q0,q1,q2,q3,q4,q5,q6,q7,qf,ql⟩:=jA hR.box;obtain⟨Ai,ci,Af,cf,z0,z2,z5,z6,z7,z8,z9,ac,zf,zl⟩:=h.cells;have a7:=fE q5;have HC:=fE hR.chain.read;clear q0 q1 q2 q6 q7 qf z0 z2 z6 z7 z8 ac zf hR;have aa:fV m.depth:=iu (by omega);obtain⟨d,a2⟩:∃ d,m.depth=d:=⟨_,rfl⟩
 obtain⟨a,a0⟩:∃ d,P.E.args=d:=⟨_,rfl⟩
 obtain⟨f,a1⟩:∃ d,s.first=d:=⟨_,rfl⟩
 obtain⟨fr,a3⟩:∃ b,P.E.gm=b:=⟨_,rfl⟩
 have a4:=fE a3;have a6:=fE a2;have a5:=fE a0;have ad:=fE a1;rw[a3] at z5;rw[a2] at z9;have a9 : -1000000<=d/\d<=1000000:=a2 ▸ hd;have a8:0<=a/\a<=100:=a0 ▸ ha;have ab : -1000<=f/\f<=1000:=a1 ▸ hf;rw[a1] at q4;clear a3 hf ha;have HI:=fE (Int.not_lt.1 hia);have HO:=fE ho;obtain⟨w0,w1,w2,w3,w4,w5,w6,w7,w8⟩:=Et hi a9 a8;rw[hza,a0] at q3;rw[hc0,show ([]:Q Int).length=0 from rfl] at q5;rw[hf0] at a1;subst a1;rw[a0] at hia;clear hza hc0 ho hf0 ab a0;cases fr <;> cases st
 all_goals
  go_enter func262,ntmps262
  go_wp2_with(fail)
  go_quiet (fail)
  go_wp2_with(first | (go_at_call 248;(with_reducible refine(zd4 (h.fO gF) hst (za gF a7.out) (Ty.up _ HC.out gF) hcl hln (iu (by omega)) (iu (by omega)) hl aa (iu (by omega))).mono ?_);rintro e w2 ⟨rfl,h2⟩))
  exact MF (v:=.tuple #[]) (by simp[Ly,results262,go_sem]) rfl ⟨rfl,h2.acc gF (by rw[Dx HO.out (Int.not_lt.2 HI.out),a4.out];rfl) (by rw[Dx HO.out (Int.not_lt.2 HI.out),a4.out,a6.out,a5.out];rfl) rfl⟩
theorem zqF {Z:iM} (h:jI P m fs W L)(hst:m.start=U)(hR:iU T Z s v7 W L)(ho:s.outer=U)(hc1:0<s.chain.length)(hcl:s.chain.length<=1000)(hln:m.items.length<=100000)(hi:0<=i/\i<=100)(hd : -1000000<=m.depth/\m.depth<=1000000)(hf : -1000<=s.first/\s.first<=1000)(ha:0<=P.E.args/\P.E.args<=100)(hl:fV line) :
  LR prog 262 #[.pointer (H ⟨P.g,0,V⟩),.pointer (H ⟨Z.gs,0,V⟩),F I line,F I i,X st] W fun r W'=>r=.returned (.tuple #[])/\gR P (nW P.E m s i line st) fs W L W':=by
 obtain⟨q0,q1,q2,q3,q4,q5,q6,q7,qf,ql⟩:=jA hR.box;obtain⟨Ai,ci,Af,cf,z0,z2,z5,z6,z7,z8,z9,ae,zf,zl⟩:=h.cells;have a7:=fE q5;have HC:=fE hR.chain.read;clear q0 q1 q2 q6 q7 qf z0 z2 z6 z7 z8 ae zf hR;have ab:fV m.depth:=iu (by omega);obtain⟨d,a2⟩:∃ d,m.depth=d:=⟨_,rfl⟩
 obtain⟨a,a1⟩:∃ d,P.E.args=d:=⟨_,rfl⟩
 obtain⟨f,a0⟩:∃ d,s.first=d:=⟨_,rfl⟩
 obtain⟨fr,a3⟩:∃ b,P.E.gm=b:=⟨_,rfl⟩
 have a4:=fE a3;have a5:=fE a2;have af:=fE a1;have a6:=fE a0;rw[a3] at z5;rw[a2] at z9;have aa : -1000000<=d/\d<=1000000:=a2 ▸ hd;have a8:0<=a/\a<=100:=a1 ▸ ha;have ac : -1000<=f/\f<=1000:=a0 ▸ hf;rw[a0] at q4;clear a3 hf ha;have HO:=fE ho;obtain⟨w0,w1,w2,w3⟩:=Es hi aa ac;have a9:((s.chain.length:Int) == 0)=U:=Lk.2 (by omega);have ad:f+i<=2000/\-2000<=f+i:=by omega
 clear ho a8 a1 a0;cases fr <;> cases st
 all_goals
  go_enter func262,ntmps262
  go_wp2_with(fail)
  go_quiet (fail)
  go_wp2_with(first | (go_at_call 248;(with_reducible refine(zd4 (h.fO gF) hst (za gF a7.out) (Ty.up _ HC.out gF) hcl hln (iu (by omega)) (iu (by omega)) hl ab (iu (by omega))).mono ?_);rintro e w2 ⟨rfl,h2⟩))
  exact MF (v:=.tuple #[]) (by simp[Ly,results262,go_sem]) rfl ⟨rfl,h2.acc gF (by rw[wB HO.out,a4.out];rfl) (by rw[wB HO.out,a4.out,a5.out,a6.out];rfl) rfl⟩
theorem DE {Z:iM} (h:jI P m fs W L)(hst:m.start=U)(hR:iU T Z s v7 W L)(hO:nS P.E Z s)(hcl:s.chain.length<=1000)(hln:m.items.length<=100000)(hi:0<=i/\i<=100)(hd : -1000000<=m.depth/\m.depth<=1000000)(hf : -1000<=s.first/\s.first<=1000)(ha:0<=P.E.args/\P.E.args<=100)(hl:fV line) :
  LR prog 262 #[.pointer (H ⟨P.g,0,V⟩),.pointer (H ⟨Z.gs,0,V⟩),F I line,F I i,X st] W fun r W'=>r=.returned (.tuple #[])/\gR P (nW P.E m s i line st) fs W L W':=by
 rcases hO with⟨ho,a0,a2,a1⟩ | ⟨ho,a3⟩
 ·by_cases hia:i<P.E.args
  ·exact zpt h hst hR ho a0 a2 a1 hia hcl hln hi hd hf ha hl
  ·exact zpu h hst hR ho a0 a2 a1 hia hcl hln hi hd hf ha hl
 ·exact zqF h hst hR ho a3 hcl hln hi hd hf ha hl
theorem ztg {Z:iM} (h:jI P m fs W L)(hst:m.start=U)(hR:iU T Z s v7 W L)(hx:x.outer=U)(hxf:x.first=s.first)(hcl:s.chain.length<=1000)(hln:m.items.length<=100000)(hi:0<=i/\i<=100)(hd : -1000000<=m.depth/\m.depth<=1000000)(hf : -1000<=s.first/\s.first<=1000)(ha:0<=P.E.args/\P.E.args<=100)(hl:fV line) :
  LR prog 272 #[.pointer (H ⟨P.g,0,V⟩),.pointer (H ⟨Z.gs,0,V⟩),F I line,F I i] W fun r W'=>r=.returned (.tuple #[])/\gR P (jC P.E m x i line s.chain) fs W L W':=by
 obtain⟨q0,q1,q2,q3,q4,q5,q6,q7,qf,ql⟩:=jA hR.box;obtain⟨Ai,ci,Af,cf,z0,z2,z5,z6,z7,z8,z9,ad,zf,zl⟩:=h.cells;have a8:=fE q5;have HC:=fE hR.chain.read;clear q0 q1 q2 q6 q7 qf z0 z2 z6 z7 z8 ad zf hR;have ab:fV m.depth:=iu (by omega);obtain⟨d,a2⟩:∃ d,m.depth=d:=⟨_,rfl⟩
 obtain⟨a,a1⟩:∃ d,P.E.args=d:=⟨_,rfl⟩
 obtain⟨f,a0⟩:∃ d,s.first=d:=⟨_,rfl⟩
 obtain⟨fr,a3⟩:∃ b,P.E.gm=b:=⟨_,rfl⟩
 have a4:=fE a3;have a5:=fE a2;have ae:=fE a1;have a6:=fE a0;rw[a3] at z5;rw[a2] at z9;have aa : -1000000<=d/\d<=1000000:=a2 ▸ hd;have a9:0<=a/\a<=100:=a1 ▸ ha;have ac : -1000<=f/\f<=1000:=a0 ▸ hf;rw[a0] at q4;clear a3 hf ha;have HO:=fE hx;have a7:=fE hxf;obtain⟨w0,w1,w2,w3⟩:=Es hi aa ac;clear hx hxf a9 a1 a0;cases fr
 all_goals
  go_enter func272,ntmps272
  go_wp2_with(first | (go_at_call 248;(with_reducible refine(zd4 (h.fO gF) hst (za gF a8.out) (Ty.up _ HC.out gF) hcl hln (iu (by omega)) (iu (by omega)) hl ab (iu (by omega))).mono ?_);rintro e w2 ⟨rfl,h2⟩))
  exact MF (v:=.tuple #[]) (by simp[Ly,results272,go_sem]) rfl ⟨rfl,(gR.word h2 gF (by rw[wB HO.out,a4.out];rfl) (by rw[wB HO.out,a4.out,a5.out,a7.out,a6.out];rfl))⟩
end Go.Proofs.YtiihkapmggfjkaaGreat
