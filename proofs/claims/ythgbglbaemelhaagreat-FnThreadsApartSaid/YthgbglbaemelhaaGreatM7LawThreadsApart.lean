/-
  PART.
-/
import Derived.Test.YthgbglbaemelhaaGreatM6LawThreadsApart
import Derived.OrdersHeld
set_option linter.unusedVariables false
set_option linter.unusedSimpArgs false
set_option maxRecDepth 100000
set_option maxHeartbeats 8000000
namespace Go.Proofs.YthgbglbaemelhaaGreat
open Value renaming slice->G,int->J,bool->H,string->V
open IntKind renaming i64->Z,wrap->Rg
open Option renaming none->C,some->D
open Obj renaming cells->F
open Bool renaming false->I,true->M
open Go renaming World->U,Calls->RD,Addr->RJ,TypeId->R5,yielded->Th,undef->Ug
open World renaming cell?->Rb,frozen?->Rx
open RowKit renaming intOf->RS
open Region renaming wanted->RV,ready->Sn,noSelect->TZ,Mode->Ub,free->Wu
open _root_.Nat renaming add_zero->Sr
open Tryz
open Go.RowKit
variable {A A' A0 A1 A2 A3:X RJ}{B c c' c0 c1 c2 c3 f g i k m1 n:Nat}{L S S' S1 S2 S3:Q Nat}{P:Program}{W W' u1 w:U}{a:Act}{cs:Q Value}{e:R5}{listed:Array Bool}{m:fT}{o oi:Oper}{ops:Array Oper}{rows:Q (Q Value)}{v:Value}
def np (n:Nat):Ty (Q Value) where
 size:=n
 R:=fun _ _ cs x=>cs=x/\x.length=n/\∀ u∈x,u.oneCell'=M
 O:=fun _ cs x S=>cs=x/\x.length=n/\(∀ u∈x,u.oneCell'=M)/\S = []
 lp:=by rintro _ _ _ _ ⟨rfl,h,_⟩;exact h
 jC:=by rintro _ _ _ _ ⟨rfl,h,_⟩;exact h
 lH:=by rintro _ _ _ _ ⟨rfl,_,h,_⟩;exact h
 ma:=by rintro _ _ _ _ ⟨rfl,_,h⟩;exact h
 iH:=by rintro _ _ _ _ _ _ h _ _;exact h
 gD:=by rintro _ _ _ _ _ h _;exact h
 iY:=by rintro _ _ _ _ ⟨_,_,_,rfl⟩ k hk;simp at hk
 OR:=by rintro _ _ _ _ _ ⟨h1,h2,h3,_⟩ _;exact⟨h1,h2,h3⟩
theorem Df (n:Nat):kB (np n):=fun⟨h1,h2,h3⟩ _=>⟨h1,h2,h3,rfl⟩
theorem Mr:(prog.info? 253).map (fun i=>(i.zero,i.size,i.bytes))=D (D (.agg #[J Z 0,G C 0 0,G C 0 0,J Z 0,H I,G C 0 0]),6,96):=Fs
theorem Il:hU prog 249 253 (np 6) 96:=by
 obtain⟨i0,hi,a0,a1,a2⟩:=Tn Mr;exact⟨underlying249,⟨i0,_,hi,a0,a1,a2,rfl⟩,qo⟩
structure jt where
 E:fX
 b:fY
 A:X RJ
 c:Nat
 g:Nat
 Y:U
structure iq (P:jt)(m:fT)(rows:Q (Q Value))(W:U)(Ai:X RJ)(ci:Nat)(Si:Q Nat)(As:X RJ)(cs:Nat)(Ss:Q Nat):Prop where
 box:W.heap[P.g]?=D (F #[G P.A P.E.p.length P.c,J Z P.b.M2,J Z P.E.inl,H P.b.Wz,H P.b.NE,H P.E.gY,J Z P.E.ww,J Z m.gO,J Z P.E.args,J Z m.jp,G Ai m.pi.length ci,G As rows.length cs,H m.start] 251 (0,0))
 ia:Has (ph.sl 227) W [G Ai m.pi.length ci] m.pi Si
 nu:Has ((np 6).sl 253) W [G As rows.length cs] rows Ss
 jj:∀ b∈Si,b∉Ss
 gn:P.g∉Si/\P.g∉Ss
 fy:fu P.Y W
 low:P.Y.heap.size<=P.g/\(∀ b∈Si,P.Y.heap.size<=b)/\∀ b∈Ss,P.Y.heap.size<=b
def jl (P:jt)(m:fT)(rows:Q (Q Value))(W:U)(L:Q Nat):Prop:=
 ∃ Ai ci Si As cs Ss,iq P m rows W Ai ci Si As cs Ss/\L=P.g::(Si++Ss)
def gC (P:jt)(m':fT)(rows':Q (Q Value))(W:U)(L:Q Nat)(W':U):Prop:=
 ∃ L',jl P m' rows' W' L'/\fx L W W'/\∀ b∈L',b∈L∨W.heap.size<=b
theorem nD {o0 o1 o2 o3 o4 o5 o6 o7 o8 o9 o10 o11 o12:Value} (h:W.heap[g]?=D (F #[o0,o1,o2,o3,o4,o5,o6,o7,o8,o9,o10,o11,o12] e (0,0))) :
  Rb W ⟨g,0,C⟩=D o0/\Rb W ⟨g,1,C⟩=D o1/\Rb W ⟨g,2,C⟩=D o2/\Rb W ⟨g,3,C⟩=D o3/\Rb W ⟨g,4,C⟩=D o4/\Rb W ⟨g,5,C⟩=D o5/\Rb W ⟨g,6,C⟩=D o6/\Rb W ⟨g,7,C⟩=D o7/\Rb W ⟨g,8,C⟩=D o8/\Rb W ⟨g,9,C⟩=D o9/\Rb W ⟨g,10,C⟩=D o10/\Rb W ⟨g,11,C⟩=D o11/\Rb W ⟨g,12,C⟩=D o12/\(∀ j,Rx W ⟨g,j,C⟩=I)/\g<W.heap.size:=by
 refine⟨?_,?_,?_,?_,?_,?_,?_,?_,?_,?_,?_,?_,?_,fun j=>by simp[Rx,h],(blt h)⟩
 all_goals
  rw[Sw W g _ _ _ (0,0) h]
  rfl
theorem fx.then {a b c:U} (h:fx S a b)(k:fx S1 b c)(hs:∀ x∈S1,x∈S∨a.heap.size<=x):fx S a c:=
 ⟨k.os.trans h.os,k.tape.trans h.tape,k.output.trans h.output,RG h.size k.size,fun i hi hn=>(k.block i (Ri hi h.size) (fun hm=>(hs i hm).elim hn (fun hh=>K9))).trans (h.block i hi hn)⟩
theorem jl.iX {P:jt} (h:jl P m rows W L):P.g∈L/\P.g<W.heap.size/\(∀ b∈L,b<W.heap.size)/\(∀ b∈L,P.Y.heap.size<=b)/\fu P.Y W:=by
 obtain⟨Ai,ci,Si,As,cs,Ss,h,rfl⟩:=h;have hg:=(blt h.box)
 refine⟨II,hg,fun b hb=>?_,fun b hb=>?_,h.fy⟩
 ·rcases RO.1 hb with rfl | hb
  ·exact hg
  ·rcases Rr.1 hb with hb | hb
   ·exact h.ia.lt b hb
   ·exact h.nu.lt b hb
 ·rcases RO.1 hb with rfl | hb
  ·exact h.low.1
  ·rcases Rr.1 hb with hb | hb
   ·exact h.low.2.1 b hb
   ·exact h.low.2.2 b hb
theorem gC.refl {P:jt}{m:fT}{rows:Q (Q Value)}{W:U}{L:Q Nat}(h:jl P m rows W L):gC P m rows W L W:=
 ⟨L,h,fx.refl _ _,fun _ hb=>.inl hb⟩
theorem vG {g:Prop} (f:g:=by
  obtain⟨L2,h2,ho2,hl2⟩:=k
  refine⟨L2,h2,ho.then ho2 hl,fun b hb=>?_⟩
  rcases hl2 b hb with hb | hb
  ·exact hl b hb
  ·exact .inr (RG ho.size hb)):g:=f
theorem gC.trans {P:jt} {m1 m2:fT} {r1 r2:Q (Q Value)} {W1 W2:U} {L1:Q Nat} (_h:jl P m1 r1 W1 L1)(ho:fx L W W1)(hl:∀ b∈L1,b∈L∨W.heap.size<=b)(k:gC P m2 r2 W1 L1 W2):gC P m2 r2 W L W2:=by
 exact vG
theorem jl.fy {P:jt}{m:fT}{rows:Q (Q Value)}{W W':U}{L:Q Nat}(h:jl P m rows W L)(hg:fu W W'):jl P m rows W' L:=by
 obtain⟨Ai,ci,Si,As,cs,Ss,h,rfl⟩:=h;exact⟨Ai,ci,Si,As,cs,Ss,⟨zj h.box hg,h.ia.fy hg,h.nu.fy hg,h.jj,h.gn,h.fy.trans hg,h.low⟩,rfl⟩
theorem jl.cells {P:jt} (h:jl P m rows W L):∃ Ai ci As cs,
  Rb W ⟨P.g,0,C⟩=D (G P.A P.E.p.length P.c)/\Rb W ⟨P.g,1,C⟩=D (J Z P.b.M2)/\Rb W ⟨P.g,2,C⟩=D (J Z P.E.inl)/\Rb W ⟨P.g,5,C⟩=D (H P.E.gY)/\Rb W ⟨P.g,6,C⟩=D (J Z P.E.ww)/\Rb W ⟨P.g,7,C⟩=D (J Z m.gO)/\Rb W ⟨P.g,8,C⟩=D (J Z P.E.args)/\Rb W ⟨P.g,9,C⟩=D (J Z m.jp)/\Rb W ⟨P.g,10,C⟩=D (G Ai m.pi.length ci)/\Rb W ⟨P.g,11,C⟩=D (G As rows.length cs)/\Rb W ⟨P.g,12,C⟩=D (H m.start)/\(∀ j,Rx W ⟨P.g,j,C⟩=I)/\P.g<W.heap.size:=by
 obtain⟨Ai,ci,Si,As,cs,Ss,h,rfl⟩:=h;obtain⟨z0,z1,z2,z3,z4,z5,z6,z7,z8,z9,a0,a1,a2,zf,zl⟩:=nD h.box;exact⟨Ai,ci,As,cs,z0,z1,z2,z5,z6,z7,z8,z9,a0,a1,a2,zf,zl⟩
theorem jl.num {P:jt} {m':fT} (h:jl P m rows W L){i:Nat}{v:Value}(hi:m'.pi=m.pi)
  (hrow:∀ a b c d e f g x y,(#[a,b,c,d,e,f,g,J Z m.gO,J Z P.E.args,J Z m.jp,x,y,H m.start]:Array Value).setIfInBounds i v=#[a,b,c,d,e,f,g,J Z m'.gO,J Z P.E.args,J Z m'.jp,x,y,H m'.start]) :
  jl P m' rows (W.setCell ⟨P.g,i,C⟩ v) L/\fx L W (W.setCell ⟨P.g,i,C⟩ v):=by
 obtain⟨Ai,ci,Si,As,cs,Ss,h,rfl⟩:=h;have a0:fx [P.g] W (W.setCell ⟨P.g,i,C⟩ v):=(fx.refl _ _).setCell (p:=⟨P.g,i,C⟩) (by simp) _;refine⟨⟨Ai,ci,Si,As,cs,Ss,⟨jd (i:=i) (v:=v) h.box (by rw[hrow,hi]),?_,?_,h.jj,h.gn,a0.fy h.fy (fun b hb=>by simp at hb;exact hb ▸ h.low.1),h.low⟩,rfl⟩,a0.mono (by simp)⟩
 ·rw[hi]
  exact h.ia.fJ a0 (fun x hx hm=>by simp at hm;exact h.gn.1 (hm ▸ hx))
 ·exact h.nu.fJ a0 (fun x hx hm=>by simp at hm;exact h.gn.2 (hm ▸ hx))
theorem jl.arg {P:jt} (h:jl P m rows W L){j:Nat}{x:fM}(hx:m.pi[j]?=D x) :
  ∃ gi ci,Rb W ⟨P.g,10,C⟩=D (G (D ⟨gi,0,C⟩) m.pi.length ci)/\gi<W.heap.size/\gi≠P.g/\(∀ k,Rx W ⟨gi,k,C⟩=I)/\Rb W ⟨gi,j*7+1,C⟩=D (J Z x.Op.Wv)/\
   ∀ v,fE v->jl P (m.iN (mD m.pi j v)) rows (W.setCell ⟨gi,j*7+1,C⟩ (J Z v)) L/\fx L W (W.setCell ⟨gi,j*7+1,C⟩ (J Z v)):=by
 obtain⟨Ai,ci,Si,As,cs,Ss,h,rfl⟩:=h;obtain⟨gi,ec,Sc,rfl,a8,a9,ac,aa,ad,hO,a7,a0,a1,_⟩:=qh h.ia.1 h.ia.2 hx;obtain⟨A0,c0,S0,rfl,a5,b0,b1,b2,a4,b4⟩:=IX hO;subst a5;have hz:ph.size=7:=rfl;rw[hz] at a0 a1;have a6:=a0 1 _ rfl;obtain⟨z0,z1,z2,z3,z4,z5,z6,z7,z8,z9,ab,ae,af,zf,zl⟩:=nD h.box;refine⟨gi,ci,ab,a9,fun e=>h.gn.1 (e ▸ a8),a7,a6,fun v hv=>?_⟩;have hp:=a1 1 (J Z v) { x with Op:=⟨x.Op.Code,v⟩ } (by decide) rfl (CL (x:={ x with Op:=⟨x.Op.Code,v⟩ }) A0 c0 Sc b0 hv b2 a4 b4);have a2:mD m.pi j v=m.pi.set j { x with Op:=⟨x.Op.Code,v⟩ }:=by unfold mD;rw[hx]
 have a3:(m.pi.set j { x with Op:=⟨x.Op.Code,v⟩ }).length=m.pi.length:=RP ..;refine⟨⟨D ⟨gi,0,C⟩,ci,Si,As,cs,Ss,⟨?_,?_,h.nu.fJ hp.2 (fun b hb hm=>h.jj b hm hb),h.jj,h.gn,hp.2.fy h.fy h.low.2.1,h.low⟩,rfl⟩,hp.2.mono (fun b hb=>by simp[hb])⟩
 ·have hm:=(hp.2.block P.g (blt h.box) h.gn.1).trans h.box
  simp only[fT.iN,a2,a3];exact hm
 ·simp only[fT.iN,a2,a3]
  exact⟨hp.1,h.ia.2⟩
theorem Je {xs:Q (Q Value)} {r:Q Value} (h:Has ((np n).sl e) W [G A xs.length c] xs S)(hr:xs[k]?=D r) :
  ∃ g,A=D ⟨g,0,C⟩/\g∈S/\g<W.heap.size/\(∀ j,Rx W ⟨g,j,C⟩=I)/\r.length=n/\(∀ j u,r[j]?=D u->Rb W ⟨g,k*n+j,C⟩=D u)/\
   ∀ j u,j<n->u.oneCell'=M->Has ((np n).sl e) (W.setCell ⟨g,k*n+j,C⟩ u) [G A xs.length c] (xs.set k (r.set j u)) S/\fx S W (W.setCell ⟨g,k*n+j,C⟩ u):=by
 obtain⟨g,ec,Sc,rfl,a3,a4,a6,a5,a7,hO,a2,a0,a1,_⟩:=qh h.1 h.2 hr;obtain⟨rfl,hl,ho,rfl⟩:=hO;refine⟨g,rfl,a3,a4,a2,hl,fun j u hu=>a0 j u hu,fun j u hj hu=>?_⟩;have hp:=a1 j u (ec.set j u) hj hu ⟨rfl,by rw[RP];exact hl,fun v hv=>?_,rfl⟩
 ·exact⟨⟨hp.1,h.2⟩,hp.2⟩
 ·rcases TW hv with hv | rfl
  ·exact ho v hv
  ·exact hu
theorem uL {g:Prop} (f:g:=by
  obtain⟨A',c',h1,h2,h3,h4,h5⟩:=h
  injection h1 with h1 h1'
  injection h1 with hA hn hc
  subst hA hc hn
  refine⟨A,c,rfl,h2,h3,h4,fun hp=>?_⟩
  obtain⟨g,off,rfl,hg,h6⟩:=h5 hp
  refine⟨g,off,rfl,by have:=hs.size;omega,fun i x hx=>?_⟩
  obtain⟨ec,hR,hc⟩:=h6 i x hx
  exact⟨ec,T.read (hf hR W'),fun j u hu=>(hs.cell hg (by simpa using hk _ rfl) _).trans (hc j u hu)⟩):g:=f
theorem rq {α:Type} {T:Ty α} (hf:kB T){e:R5}{W W':U}{k:Nat}{A:X RJ}{n c:Nat}{xs:Q α}(h:(T.sl e).R W W.heap.size [G A n c] xs)(hs:fx [k] W W')(hk:∀ ad,A=D ad->ad.block≠k):(T.sl e).R W' W'.heap.size [G A n c] xs:=by
 exact uL
structure lz (W:U)(k:Nat)(A0:X RJ)(c0:Nat)(vars:Q N)(A1:X RJ)(c1:Nat)(names:Q N)(A2:X RJ)(c2:Nat)(ars:Q Int):Prop where
 v:(iI.sl 9).R W W.heap.size [G A0 vars.length c0] vars
 n:(iI.sl 9).R W W.heap.size [G A1 names.length c1] names
 a:(zr.sl 3).R W W.heap.size [G A2 ars.length c2] ars
 kv:∀ ad,A0=D ad->ad.block≠k
 kn:∀ ad,A1=D ad->ad.block≠k
 ka:∀ ad,A2=D ad->ad.block≠k
 len:names.length=ars.length
 ar:∀ a∈ars,0<=a/\a<=2
 lv:vars.length<=1000
 ln:names.length<=1000
variable {k:Nat} {A0:X RJ} {c0:Nat} {vars:Q N} {A1:X RJ} {c1:Nat} {names:Q N} {A2:X RJ} {c2:Nat} {ars:Q Int}
theorem lz.only (h:lz W k A0 c0 vars A1 c1 names A2 c2 ars)(hs:fx [k] W W'):lz W' k A0 c0 vars A1 c1 names A2 c2 ars:=
 ⟨rq lA h.v hs h.kv,rq lA h.n hs h.kn,rq zE h.a hs h.ka,h.kv,h.kn,h.ka,h.len,h.ar,h.lv,h.ln⟩
theorem lz.fy (h:lz W k A0 c0 vars A1 c1 names A2 c2 ars)(hg:fu W W'):lz W' k A0 c0 vars A1 c1 names A2 c2 ars:=h.only (hg.only _)
def ns (n:Nat):Nat:=if n<=1 then 1 else if n<=3 then 3 else 7
theorem OW (h:2<n)(h6:n<=6):1+ns (n / 2)+ns (n / 2)<=ns n:=by
 have:n=3∨n=4∨n=5∨n=6:=K9;rcases this with rfl | rfl | rfl | rfl <;> decide
theorem Ol (h:1<n)(h6:n<=6):1+2*ns (n / 4)<=ns n:=by
 have:n=2∨n=3∨n=4∨n=5∨n=6:=K9;rcases this with rfl | rfl | rfl | rfl | rfl <;> decide
theorem Bp (n:Nat):1<=ns n/\ns n<=7:=by unfold ns;split <;> (try split) <;> omega
def pw (w W:U)(k m:Nat)(e:Ending)(W':U):Prop:=∃ A c out S,e=.returned (G A out.length c)/\out.length<=m/\iO w W' k/\fx [k] W W'/\Has (jf.sl 160) W' [G A out.length c] out S/\∀ b∈S,W.heap.size<=b
structure gN {α:Type}(T:Ty α)(t:R5)(w W0 W:U)(k:Nat)(A:X RJ)(n c:Nat)(out:Q α)(S:Q Nat):Prop where
 cur:iO w W k
 only:fx [k] W0 W
 has:Has (T.sl t) W [G A n c] out S
 lo:∀ b∈S,W0.heap.size<=b
 vZ:k<W0.heap.size
 len:n=out.length
section
variable {α:Type} {T:Ty α} {t:R5} {w W0 W W':U} {k:Nat} {A:X RJ} {n c:Nat} {out:Q α} {S:Q Nat}
theorem gN.xM (h:gN T t w W0 W k A n c out S):k∉S:=fun hm=>by have:=h.lo k hm;have:=h.vZ;omega
theorem gN.fy (h:gN T t w W0 W k A n c out S)(hg:fu W W'):gN T t w W0 W' k A n c out S:=
 ⟨h.cur.more hg,h.only.trans (hg.only _),h.has.fy hg,h.lo,h.vZ,h.len⟩
theorem gN.call (h:gN T t w W0 W k A n c out S)(hs:fx [k] W W')(hC:iO w W' k):gN T t w W0 W' k A n c out S:=
 ⟨hC,h.only.trans hs,h.has.fJ hs (fun b hb hm=>by simp only[Rc] at hm;subst hm;exact h.xM hb),h.lo,h.vZ,h.len⟩
theorem gN.next {L:Nat} {out':Q α} {Sy:Q Nat} (h:gN T t w W0 W k A n c out S)(hon:fx S W W')(hH:Has (T.sl t) W' [G A' L c'] out' S')(hS:∀ b∈S',b∈S∨b∈Sy∨W.heap.size<=b)(hSy:∀ b∈Sy,W0.heap.size<=b)(hL:L=out'.length):gN T t w W0 W' k A' L c' out' S':=
 ⟨h.cur.only hon h.xM (fun b hb=>by have:=h.lo b hb;have:=h.vZ;have:=h.cur.lo;omega),h.only.then hon (fun x hx=>.inr (h.lo x hx)),hH,fun b hb=>by
  rcases hS b hb with h1 | h1 | h1
  ·exact h.lo b h1
  ·exact hSy b h1
  ·have:=h.only.size;omega,h.vZ,hL⟩
theorem gN.ri {L:Nat} {out':Q α} (h:gN T t w W0 W k A n c out S)(hon:fx S W W')(hH:Has (T.sl t) W' [G A' L c'] out' S')(hS:∀ b∈S',b∈S∨W.heap.size<=b)(hL:L=out'.length):gN T t w W0 W' k A' L c' out' S':=
 h.next (Sy:=[]) hon hH (fun b hb=>(hS b hb).elim .inl (fun h=>.inr (.inr h))) (fun b hb=>by cases hb) hL
theorem gN.one (hf:kB T){ec:Q Value}{x:α}{g:Nat}(hR:∀ W1,T.R W1 0 ec x)(hC:iO w W k)(hs:fx [k] W0 W)(hk:k<W0.heap.size)(hg:g=W.heap.size):∃ S,gN T t w W0 (W.alloc (F ec.toArray t)) k (D ⟨g,0,C⟩) 1 1 [x] S:=by
 obtain⟨S3,a1,a2⟩:=(Gv (T:=T) (e:=t) hf (W0:=W) (W:=W) (W1:=W) (B:=0) (hR W) (fu.refl _) hg).has;have a0:fu W (W.alloc (F ec.toArray t)):=gG;exact⟨S3,hC.more a0,hs.trans (a0.only _),a1,fun b hb=>by have:=a2 b hb;have:=hs.size;omega,hk,rfl⟩
end
theorem pw.of {W0:U} {m:Nat} {out:Q gB} {e:Ending} (h:gN jf 160 w W0 W k A n c out S)(hm:n<=m)(he:e=.returned (G A n c)):pw w W0 k m e W:=by
 obtain rfl:=h.len;exact⟨A,c,out,S,he,hm,h.cur,h.only,h.has,h.lo⟩
theorem Dz {cs:Array Value} (xs:Q Int)(hcs:cs.toList=xs.map (J Z))(hn:n=xs.length)(hg:g=W.heap.size)(hb:∀ x∈xs,fE x)(hl:xs.length<=1000):(zr.sl e).R (W.alloc (F cs e)) (W.alloc (F cs e)).heap.size [G (D ⟨g,0,C⟩) n n] xs:=by
 subst hn hg;have a0:=Re W (F cs e);refine⟨_,_,rfl,Ru _,K9,II,fun _=>⟨_,0,rfl,II,fun i x hx=>⟨[J Z x],⟨rfl,hb x (Rt hx)⟩,fun j u hu=>?_⟩⟩⟩
 obtain⟨rfl,rfl⟩:j=0/\u=J Z x:=by
  match j,hu with
  | 0,hu=>exact⟨rfl,by simpa using hu.symm⟩
  | j+1,hu=>simp at hu
 rw[Sw _ _ _ _ _ _ a0];simp only[show zr.size=1 from rfl,TO,Sr,RF];rw[<-Array.getElem?_toList,hcs,UI,hx];rfl
theorem zhc (hC:iO w W k)(n:Int)(hn:0<n)(hn2:n<=1099511627776):RD prog 103 #[.pointer (D ⟨k,0,C⟩),J Z n] W fun e W'=>∃ b:Bool,e=.returned (H b)/\iO w W' k/\fx [k] W W':=by
 go_enter func103,ntmps103;go_wp2_with(go_at_call 36;(with_reducible refine(nS hC n hn hn2).mono ?_);rintro e W1 ⟨x,rfl,hx,a0,a1⟩);go_ret;exact⟨_,rfl,a0,a1⟩
theorem zqN:∀(n:Nat),n<=6->∀(m:Int),m=(n:Int)->∀{w W:U}{k:Nat}{A0:X RJ}{c0:Nat}{vars:Q N}{A1:X RJ}{c1:Nat}{names:Q N}{A2:X RJ}{c2:Nat}{ars:Q Int}(_:iO w W k)(_:lz W k A0 c0 vars A1 c1 names A2 c2 ars),
  RD prog 187 #[.pointer (D ⟨k,0,C⟩),J Z m,G A0 vars.length c0,G A1 names.length c1,G A2 ars.length c2] W (pw w W k (ns n)):=by
 intro n;induction n using Nat.strongRecOn with
 | _ n ih=>
 rintro hn m rfl w W k A0 c0 vars A1 c1 names A2 c2 ars hC hI;have IH:=fh ih;clear ih;go_enter func187,ntmps187;go_upto_region 2 with(go_at_call 36;(with_reducible refine(nS hC 10 qo qo).mono ?_);rintro e W1 ⟨x,rfl,hx,a9,a3⟩);have aR:=hI.only a3;go_cut [18] from 19 to 25 (fun v wx=>v=H (decide (2<n/\x<5))/\W1=wx)
 case first=>
  by_cases a5:2<n
  ·have ay:(2:Int)<(n:Int):=K9
   by_cases ac:x<5
   ·have aB:(x:Int)<5:=K9
    have HD:=fh (show M=decide (2<n/\x<5) from(Rp ⟨a5,ac⟩).symm);clear a5 ac;go_wp2_with(fail);go_meet;exact⟨by rw[<-HD.out],rfl⟩
   ·have aB:¬ ((x:Int)<5):=K9
    have HD:=fh (show I=decide (2<n/\x<5) from(Rk (fun h=>ac h.2)).symm);clear a5 ac;go_wp2_with(fail);go_meet;exact⟨by rw[<-HD.out],rfl⟩
  ·have ay:¬ ((2:Int)<(n:Int)):=K9
   have HD:=fh (show I=decide (2<n/\x<5) from(Rk (fun h=>a5 h.1)).symm);clear a5;go_wp2_with(fail);go_meet;exact⟨by rw[<-HD.out],rfl⟩
 obtain⟨rfl,rfl⟩:=hcut;by_cases hbin:2<n/\x<5
 ·have HB:=fh (Rp hbin)
  rw[Rp hbin];obtain⟨a5,ac⟩:=hbin;have hq:Rg Z (Int.tdiv (n:Int) 2)=((n / 2:Nat):Int):=by rw[UZ K9];exact(iw).trans K9
  have b2:=OW a5 hn;have aE:n / 2<n:=K9;have aD:n / 2<=6:=K9;have ba:=Bp n;go_upto_region 4 with(go_at_call 36;(with_reducible refine(nS a9 5 qo qo).mono ?_);rintro e W2 ⟨y,rfl,hy,a2,a1⟩;have bd:Rg Z (2+(y:Int))=2+(y:Int):=iw);obtain⟨S3,h3⟩:=gN.one (t:=160) pZ (ec:=[J Z (2+(y:Int)),J Z 0,V { data:=#[] }]) (x:=⟨2+(y:Int),0,{ data:=#[] }⟩) (fun W=>te (x:=⟨2+(y:Int),0,{ data:=#[] }⟩) ⟨by simp only;omega,by simp only;omega⟩ ⟨by simp only;omega,by simp only;omega⟩ (by simp only;decide)) a2 (a3.trans a1) hC.lt rfl;generalize hY:W2.alloc _=Y at h3 |-;have h4:=h3
  go_upto_region 5 with(first
   | (go_at_call 187;(with_reducible refine(IH.out (n / 2) aE aD ((n:Int) / 2) K9 h3.cur (hI.only h3.only)).mono ?_);rintro e W4 ⟨B4,d4,o4,S4,rfl,b9,aO,aT,aP,b4⟩;have h4:=h3.call aT aO)
   | (refine wV (L:=1+o4.length) rfl (.tmp 30) (.tmp 37) yK pZ h4.has aP.read rfl rfl rfl rfl K9 K9 ?_;intro B5 d5 W5 S5 aA aQ aU;have h5:=h4.ri aA aQ aU (by simp;omega)))
  have h6:=h5
  go_wp2_with(first
   | (go_at_call 187;(with_reducible refine(IH.out (n / 2) aE aD ((n:Int) / 2) K9 h5.cur (hI.only h5.only)).mono ?_);rintro e W6 ⟨B6,d6,o6,S6,rfl,b3,al,ap,am,aw⟩;have h6:=h5.call ap al)
   | (refine wV (L:=1+o4.length+o6.length) rfl (.tmp 39) (.tmp 46) yK pZ h6.has am.read rfl rfl rfl rfl K9 K9 ?_;intro B7 d7 W7 S7 a8 an aq;have h7:=h6.ri a8 an aq (by simp;omega)))
  go_ret;exact .of h7 K9 rfl
 ·rw[Rk hbin]
  clear hbin;go_upto_region 6 with(fail);go_cut [48] from 49 to 60 (fun v wx=>v=H (decide (0<names.length/\1<n/\x<8))/\W1=wx)
  case first=>
   by_cases a6:0<names.length
   ·have az:(0:Int)<(names.length:Int):=K9
    by_cases a4:1<n
    ·have ax:(1:Int)<(n:Int):=K9
     by_cases ae:x<8
     ·have aC:(x:Int)<8:=K9
      have HD:=fh (show M=decide (0<names.length/\1<n/\x<8) from(Rp ⟨a6,a4,ae⟩).symm);clear a6 a4 ae;go_wp2_with(fail);go_meet;exact⟨by rw[<-HD.out],rfl⟩
     ·have aC:¬ ((x:Int)<8):=K9
      have HD:=fh (show I=decide (0<names.length/\1<n/\x<8) from(Rk (fun h=>ae h.2.2)).symm);clear a6 a4 ae;go_wp2_with(fail);go_meet;exact⟨by rw[<-HD.out],rfl⟩
    ·have ax:¬ ((1:Int)<(n:Int)):=K9
     have HD:=fh (show I=decide (0<names.length/\1<n/\x<8) from(Rk (fun h=>a4 h.2.1)).symm);clear a6 a4;go_wp2_with(fail);go_meet;exact⟨by rw[<-HD.out],rfl⟩
   ·have az:¬ ((0:Int)<(names.length:Int)):=K9
    have HD:=fh (show I=decide (0<names.length/\1<n/\x<8) from(Rk (fun h=>a6 h.1)).symm);clear a6;go_wp2_with(fail);go_meet;exact⟨by rw[<-HD.out],rfl⟩
  obtain⟨rfl,rfl⟩:=hcut;by_cases hcall:0<names.length/\1<n/\x<8
  ·rw[Rp hcall]
   obtain⟨a6,a4,ae⟩:=hcall;go_upto_region 8 with(go_at_call 36;(with_reducible refine(nS a9 (names.length:Int) K9 (by have:=hI.ln;omega)).mono ?_);rintro e W2 ⟨y,rfl,hy,a2,a1⟩);have aa:=hI.only (a3.trans a1);have ah:y<names.length:=K9;obtain⟨g2,o2,a,aN,au,aY,aW,aX⟩:=lJ aa.a (k:=y) (by rw[<-aa.len];exact ah);obtain⟨g1,o1,nm,aM,aH,aG,a7⟩:=wF aa.n ah;obtain⟨aV,b8⟩:=aa.ar a (Rt au);obtain⟨av,rfl⟩:=RE aV;have hq:Rg Z (Int.tdiv (n:Int) 4)=(n:Int) / 4:=by rw[UZ K9];exact iw
   have b2:=Ol a4 hn;have aK:n / 4<n:=K9;have aJ:n / 4<=6:=K9;have bb:=Bp (n / 4);have be:(y:Int)<(ars.length:Int):=by rw[<-aa.len];exact_mod_cast ah
   have ao:=a3.trans a1;subst aN aM;go_region_held3 (fun w'=>Rb w' ⟨g2,o2+y,C⟩=D (J Z (av:Int))/\Rb w' ⟨g1,o1+y,C⟩=D (V nm)) ((repeat' apply Rf) <;> ((repeat (first | with_reducible assumption | with_reducible refine zd ?_ _ _ | with_reducible refine zo ?_ _ | with_reducible refine zc ?_ | with_reducible refine mC ?_ _));done)) (fail)
   all_goals go_wp2_with(fail)
   obtain⟨S3,h3⟩:=gN.one (t:=160) pZ (ec:=[J Z 7,J Z (av:Int),V nm]) (x:=⟨7,(av:Int),nm⟩) (fun W=>te (x:=⟨7,(av:Int),nm⟩) ⟨by simp only;omega,by simp only;omega⟩ ⟨by simp only;omega,by simp only;omega⟩ a7) a2 ao hC.lt rfl;have h3:=h3.fy ((fu.refl _).drew);generalize (W2.alloc _).drew=Y at h3 |-;have HA:=fh au;clear au aH aY aG;go_loopw [14,15] (fun o i wr=>∃(j af:Nat) (ai:X RJ) (aj:Nat) (out:Q gB) (S:Q Nat),o=G ai af aj/\i=J Z j/\j<=av/\af<=1+j*ns (n / 4)/\Hid (gN jf 160 w W wr k ai af aj out S)) (fun _ i _=>av-(RS i).toNat)
   case atStart=>exact⟨0,1,_,1,_,S3,rfl,rfl,Rl _,K9,fh h3⟩
   clear h3;obtain⟨j,af,ai,aj,out,S,rfl,rfl,hj,b5,HG⟩:=hrel;have h5:=HG.out;have aF:=hI.only h5.only;obtain⟨b7,bf,a',a0,ab,aZ,_,_⟩:=lJ aF.a (k:=y) (by rw[<-hI.len];exact ah);injection a0 with a0
   injection a0 with a0 hA3'
   subst a0 hA3'
   obtain rfl:a'=(av:Int):=by
    have:=HA.out;rw[ab] at this;injection this
   clear ab;by_cases hlt:j<av
   ·have b0:(j:Int)<(av:Int):=K9
    have bc:Rg Z ((j:Int)+1)=(j:Int)+1:=iw
    have b1:j*ns (n / 4)<=14:=by
     have:j<=1:=K9;rcases(show j=0∨j=1 from K9) with rfl | rfl <;> omega
    have h6:=h5
    go_wp2_with(first
     | (go_at_call 187;(with_reducible refine(IH.out (n / 4) aK aJ ((n:Int) / 4) K9 h5.cur aF).mono ?_);rintro e W6 ⟨B6,d6,o6,S6,rfl,b3,al,ap,am,aw⟩;have h6:=h5.call ap al)
     | (refine wV (L:=af+o6.length) rfl (.tmp 82) (.tmp 89) yK pZ h6.has am.read rfl rfl rfl rfl K9 K9 ?_;intro B7 d7 W7 S7 a8 an aq;have h7:=h6.ri a8 an aq (by rw[Rh,<-h6.len])))
    go_roundw;exact⟨j+1,_,B7,d7,_,S7,rfl,Ar,K9,by rw[UM];omega,fh h7⟩;exact gM
   ·obtain rfl:j=av:=K9
    have b0:¬ ((j:Int)<(j:Int)):=K9;have b1:j*ns (n / 4)<=2*ns (n / 4):=Tb _ K9;go_wp2_with(fail);go_ret;exact .of h5 K9 rfl
  ·rw[Rk hcall]
   clear hcall;go_upto_region 14 with(fail);go_cut [92] from 93 to 100 (fun v wx=>∃ b:Bool,v=H b/\iO w wx k/\fx [k] W wx/\(b=M->0<vars.length))
   case first=>
    by_cases hv:0<vars.length
    ·have aI:(0:Int)<(vars.length:Int):=K9
     go_wp2_with(go_at_call 103;(with_reducible refine(zhc a9 2 qo qo).mono ?_);rintro e W2 ⟨b,rfl,a2,a1⟩);go_meet;exact⟨b,rfl,a2,a3.trans a1,fun _=>hv⟩
    ·have aI:¬ ((0:Int)<(vars.length:Int)):=K9
     go_wp2_with(fail);go_meet;exact⟨I,rfl,a9,a3,fun h=>by cases h⟩
   obtain⟨b,rfl,a2,a1,hb⟩:=hcut;clear aR a9 a3;rename_i W2;cases b with
   | true=>
    have hv:=hb rfl;have aI:(0:Int)<(vars.length:Int):=K9;go_wp2_with(go_at_call 36;(with_reducible refine(nS a2 (vars.length:Int) K9 (by have:=hI.lv;omega)).mono ?_);rintro e W3 ⟨z,rfl,hz,ak,ag⟩;obtain⟨g0,o0,nm,aL,aH,aG,a7⟩:=wF (hI.only (a1.trans ag)).v (k:=z) K9;subst aL);obtain⟨S4,h4⟩:=gN.one (t:=160) pZ (ec:=[J Z 1,J Z 0,V nm]) (x:=⟨1,0,nm⟩) (fun W=>te (x:=⟨1,0,nm⟩) ⟨by simp only;omega,by simp only;omega⟩ ⟨by simp only;omega,by simp only;omega⟩ a7) ak (a1.trans ag) hC.lt rfl;go_ret;exact .of h4 (Bp n).1 rfl
   | false=>
    clear hb;have aS:∀ x∈[0,1,2,3,10,999],fE x:=by intro x hx;simp at hx;rcases hx with rfl | rfl | rfl | rfl | rfl | rfl <;> exact⟨qo,qo⟩
    go_upto_region 16 with(fail);go_wp2_with(fail);refine(zrt (a2.more gG) (Dz [0,1,2,3,10,999] rfl rfl II aS qo) (fun ad h=>by injection h with h;subst h;have:=a2.lt;simp;omega) qo qo).mono ?_;rintro e W3 ⟨z,rfl,hz,ak,ag⟩;go_wp2_with(fail)
    have b6:fE z:=by
     have:z=0∨z=1∨z=2∨z=3∨z=10∨z=999:=by simpa using hz
     rcases this with rfl | rfl | rfl | rfl | rfl | rfl <;> exact⟨qo,qo⟩
    obtain⟨S4,h4⟩:=gN.one (t:=160) pZ (ec:=[J Z 0,J Z z,V { data:=#[] }]) (x:=⟨0,z,{ data:=#[] }⟩) (fun W=>te (x:=⟨0,z,{ data:=#[] }⟩) ⟨by simp only;omega,by simp only;omega⟩ b6 (by simp only;decide)) ak (a1.trans ((fu.only gG _).trans ag)) hC.lt rfl;go_ret;exact .of h4 (Bp n).1 rfl
theorem My {x:fw} (h0:fE x.li)(h1:x.pu.size<=9223372036854775807)(h2:(iI.sl 9).O w [G A0 x.fL.length c0] x.fL S2)(h3:(jf.sl 160).O w [G A1 x.Expr.length c1] x.Expr S3):zQ.O w [J Z x.li,V x.pu,G A0 x.fL.length c0,G A1 x.Expr.length c1] x (S2++S3):=by
 have h:zQ.O w [J Z x.li,V x.pu,G A0 x.fL.length c0,G A1 x.Expr.length c1] x ([]++([]++(S2++S3))):=⟨[J Z x.li],[V x.pu,G A0 x.fL.length c0,G A1 x.Expr.length c1],[],([]++(S2++S3)),rfl,rfl,⟨rfl,h0.1,h0.2,rfl⟩,⟨[V x.pu],[G A0 x.fL.length c0,G A1 x.Expr.length c1],[],(S2++S3),rfl,rfl,⟨rfl,h1,rfl⟩,⟨[G A0 x.fL.length c0],[G A1 x.Expr.length c1],S2,S3,rfl,rfl,h2,h3⟩⟩⟩
 simpa using h
theorem lS {xs:Q fw} (h:(zQ.sl e).R w B [G A n c] xs){k:Nat}(hk:k<xs.length) :
  ∃ g off x A0 c0 A1 c1,A=D ⟨g,off,C⟩/\g<B/\xs[k]?=D x/\Rb w ⟨g,off+k*4,C⟩=D (J Z x.li)/\Rb w ⟨g,off+k*4+1,C⟩=D (V x.pu)/\Rb w ⟨g,off+k*4+2,C⟩=D (G A0 x.fL.length c0)/\Rb w ⟨g,off+k*4+3,C⟩=D (G A1 x.Expr.length c1)/\fE x.li/\x.pu.size<=9223372036854775807/\(iI.sl 9).R w B [G A0 x.fL.length c0] x.fL/\(jf.sl 160).R w B [G A1 x.Expr.length c1] x.Expr:=by
 obtain⟨g,off,x,ec,h1,hB,h2,h3,h4⟩:=nU h hk;obtain⟨A0,c0,A1,c1,rfl,hf⟩:=PL h3;exact⟨g,off,x,A0,c0,A1,c1,h1,hB,h2,h4 0 _ rfl,h4 1 _ rfl,h4 2 _ rfl,h4 3 _ rfl,hf⟩
theorem La:(prog.info? 99).map (fun i=>(i.zero,i.size,i.bytes))=D (D (.agg #[J Z 0,V ⟨#[]⟩,G C 0 0,G C 0 0]),4,72):=Fs
theorem ng:hU prog 24 99 zQ 72:=by
 obtain⟨i0,hi,a0,a1,a2⟩:=Tn La;exact⟨underlying24,⟨i0,_,hi,a0,a1,a2,rfl⟩,qo⟩
structure gK where
 kw:Int
 PP:Int
 Frame:Bool
 fF:Int
 deriving DecidableEq
def kK:Ty gK:=(zr.prod (zr.prod (yJ.prod zr))).via fun x=>(x.kw,x.PP,x.Frame,x.fF)
theorem PN {x:gK} (h:kK.R w B cs x):cs = [J Z x.kw,J Z x.PP,H x.Frame,J Z x.fF]/\fE x.kw/\fE x.PP/\fE x.fF:=by
 obtain⟨_,_,rfl,⟨rfl,a1,a3⟩,⟨_,_,rfl,⟨rfl,a4,a5⟩,⟨_,_,rfl,rfl,⟨rfl,a0,a2⟩⟩⟩⟩:=h;exact⟨rfl,⟨a1,a3⟩,⟨a4,a5⟩,⟨a0,a2⟩⟩
theorem Cf {x:gK} (h0:fE x.kw)(h1:fE x.PP)(h2:fE x.fF):kK.R w B [J Z x.kw,J Z x.PP,H x.Frame,J Z x.fF] x:=by
 exact⟨[J Z x.kw],[J Z x.PP,H x.Frame,J Z x.fF],rfl,⟨rfl,h0.1,h0.2⟩,⟨[J Z x.PP],[H x.Frame,J Z x.fF],rfl,⟨rfl,h1.1,h1.2⟩,⟨[H x.Frame],[J Z x.fF],rfl,rfl,⟨rfl,h2.1,h2.2⟩⟩⟩⟩
theorem PM {x:gK} (h:kK.O w cs x S):cs = [J Z x.kw,J Z x.PP,H x.Frame,J Z x.fF]/\S = []/\fE x.kw/\fE x.PP/\fE x.fF:=by
 obtain⟨_,_,_,_,rfl,rfl,⟨rfl,a1,a3,rfl⟩,⟨_,_,_,_,rfl,rfl,⟨rfl,a4,a5,rfl⟩,⟨_,_,_,_,rfl,rfl,⟨rfl,rfl⟩,⟨rfl,a0,a2,rfl⟩⟩⟩⟩:=h;exact⟨rfl,rfl,⟨a1,a3⟩,⟨a4,a5⟩,⟨a0,a2⟩⟩
theorem Nl {x:gK} (h0:fE x.kw)(h1:fE x.PP)(h2:fE x.fF):kK.O w [J Z x.kw,J Z x.PP,H x.Frame,J Z x.fF] x ([]):=by
 exact⟨[J Z x.kw],[J Z x.PP,H x.Frame,J Z x.fF],[],([]++([]++[])),rfl,rfl,⟨rfl,h0.1,h0.2,rfl⟩,⟨[J Z x.PP],[H x.Frame,J Z x.fF],[],([]++[]),rfl,rfl,⟨rfl,h1.1,h1.2,rfl⟩,⟨[H x.Frame],[J Z x.fF],[],[],rfl,rfl,⟨rfl,rfl⟩,⟨rfl,h2.1,h2.2,rfl⟩⟩⟩⟩
structure iu where
 us:Int
 fG:Int
 kw:Bool
 deriving DecidableEq
def lE:Ty iu:=(zr.prod (zr.prod yJ)).via fun x=>(x.us,x.fG,x.kw)
theorem QA {x:iu} (h:lE.R w B cs x):cs = [J Z x.us,J Z x.fG,H x.kw]/\fE x.us/\fE x.fG:=by
 obtain⟨_,_,rfl,⟨rfl,a0,a1⟩,⟨_,_,rfl,⟨rfl,a2,a3⟩,rfl⟩⟩:=h;exact⟨rfl,⟨a0,a1⟩,⟨a2,a3⟩⟩
theorem Hx {x:iu} (h0:fE x.us)(h1:fE x.fG):lE.R w B [J Z x.us,J Z x.fG,H x.kw] x:=by
 exact⟨[J Z x.us],[J Z x.fG,H x.kw],rfl,⟨rfl,h0.1,h0.2⟩,⟨[J Z x.fG],[H x.kw],rfl,⟨rfl,h1.1,h1.2⟩,rfl⟩⟩
structure fQ where
 kw:Int
 PP:Int
 Do:Int
 fG:Int
 pu:N
 deriving DecidableEq
def kE:Ty fQ:=(zr.prod (zr.prod (zr.prod (zr.prod iI)))).via fun x=>(x.kw,x.PP,x.Do,x.fG,x.pu)
theorem Nj {x:fQ} (h:kE.R w B cs x):cs = [J Z x.kw,J Z x.PP,J Z x.Do,J Z x.fG,V x.pu]/\fE x.kw/\fE x.PP/\fE x.Do/\fE x.fG/\x.pu.size<=9223372036854775807:=by
 obtain⟨_,_,rfl,⟨rfl,a1,a3⟩,⟨_,_,rfl,⟨rfl,a7,a8⟩,⟨_,_,rfl,⟨rfl,a0,a2⟩,⟨_,_,rfl,⟨rfl,a4,a6⟩,⟨rfl,a5⟩⟩⟩⟩⟩:=h;exact⟨rfl,⟨a1,a3⟩,⟨a7,a8⟩,⟨a0,a2⟩,⟨a4,a6⟩,a5⟩
theorem Fv {x:fQ} (h0:fE x.kw)(h1:fE x.PP)(h2:fE x.Do)(h3:fE x.fG)(h4:x.pu.size<=9223372036854775807):kE.R w B [J Z x.kw,J Z x.PP,J Z x.Do,J Z x.fG,V x.pu] x:=by
 exact⟨[J Z x.kw],[J Z x.PP,J Z x.Do,J Z x.fG,V x.pu],rfl,⟨rfl,h0.1,h0.2⟩,⟨[J Z x.PP],[J Z x.Do,J Z x.fG,V x.pu],rfl,⟨rfl,h1.1,h1.2⟩,⟨[J Z x.Do],[J Z x.fG,V x.pu],rfl,⟨rfl,h2.1,h2.2⟩,⟨[J Z x.fG],[V x.pu],rfl,⟨rfl,h3.1,h3.2⟩,⟨rfl,h4⟩⟩⟩⟩⟩
structure gE where
 Id:Int
 fm:Q fC
 fW:Q gK
 AC:Q iu
 fI:Q fQ
 deriving DecidableEq
def mn:Ty gE:=(zr.prod ((jm.sl 137).prod ((kK.sl 205).prod ((lE.sl 216).prod (kE.sl 214))))).via fun x=>(x.Id,x.fm,x.fW,x.AC,x.fI)
theorem Hw {x:gE} (h:mn.R w B cs x):∃ A0 c0 A1 c1 A2 c2 A3 c3,cs = [J Z x.Id,G A0 x.fm.length c0,G A1 x.fW.length c1,G A2 x.AC.length c2,G A3 x.fI.length c3]/\fE x.Id/\(jm.sl 137).R w B [G A0 x.fm.length c0] x.fm/\(kK.sl 205).R w B [G A1 x.fW.length c1] x.fW/\(lE.sl 216).R w B [G A2 x.AC.length c2] x.AC/\(kE.sl 214).R w B [G A3 x.fI.length c3] x.fI:=by
 obtain⟨_,_,rfl,⟨rfl,a4,a5⟩,⟨_,_,rfl,a1,⟨_,_,rfl,a2,⟨_,_,rfl,a3,a0⟩⟩⟩⟩:=h;obtain⟨A0,c0,rfl,_⟩:=id a1;obtain⟨A1,c1,rfl,_⟩:=id a2;obtain⟨A2,c2,rfl,_⟩:=id a3;obtain⟨A3,c3,rfl,_⟩:=id a0;exact⟨A0,c0,A1,c1,A2,c2,A3,c3,rfl,⟨a4,a5⟩,a1,a2,a3,a0⟩
theorem Mx {x:gE} (A0:X RJ)(c0:Nat)(S0:Q Nat)(A1:X RJ)(c1:Nat)(S1:Q Nat)(A2:X RJ)(c2:Nat)(S2:Q Nat)(A3:X RJ)(c3:Nat)(S3:Q Nat)(h0:fE x.Id)(h1:(jm.sl 137).O w [G A0 x.fm.length c0] x.fm S0)(h2:(kK.sl 205).O w [G A1 x.fW.length c1] x.fW S1)(h3:(lE.sl 216).O w [G A2 x.AC.length c2] x.AC S2)(h4:(kE.sl 214).O w [G A3 x.fI.length c3] x.fI S3):mn.O w [J Z x.Id,G A0 x.fm.length c0,G A1 x.fW.length c1,G A2 x.AC.length c2,G A3 x.fI.length c3] x (S0++S1++S2++S3):=by
 have h:mn.O w [J Z x.Id,G A0 x.fm.length c0,G A1 x.fW.length c1,G A2 x.AC.length c2,G A3 x.fI.length c3] x ([]++(S0++(S1++(S2++S3)))):=⟨[J Z x.Id],[G A0 x.fm.length c0,G A1 x.fW.length c1,G A2 x.AC.length c2,G A3 x.fI.length c3],[],(S0++(S1++(S2++S3))),rfl,rfl,⟨rfl,h0.1,h0.2,rfl⟩,⟨[G A0 x.fm.length c0],[G A1 x.fW.length c1,G A2 x.AC.length c2,G A3 x.fI.length c3],S0,(S1++(S2++S3)),rfl,rfl,h1,⟨[G A1 x.fW.length c1],[G A2 x.AC.length c2,G A3 x.fI.length c3],S1,(S2++S3),rfl,rfl,h2,⟨[G A2 x.AC.length c2],[G A3 x.fI.length c3],S2,S3,rfl,rfl,h3,h4⟩⟩⟩⟩
 simpa using h
structure iZ where
 fk:gk
 fV:Q gE
 deriving DecidableEq
def pd:Ty iZ:=(kY.prod (mn.sl 108)).via fun x=>(x.fk,x.fV)
theorem Mw {x:iZ} (A0:X RJ)(c0:Nat)(S0:Q Nat)(A1:X RJ)(c1:Nat)(S1:Q Nat)(A2:X RJ)(c2:Nat)(S2:Q Nat)(A3:X RJ)(c3:Nat)(S3:Q Nat)(h0:(iG.sl 103).O w [G A0 x.fk.fo.length c0] x.fk.fo S0)(h1:(zr.sl 3).O w [G A1 x.fk.ft.length c1] x.fk.ft S1)(h2:(zr.sl 3).O w [G A2 x.fk.ii.length c2] x.fk.ii S2)(h3:(mn.sl 108).O w [G A3 x.fV.length c3] x.fV S3):pd.O w [G A0 x.fk.fo.length c0,G A1 x.fk.ft.length c1,G A2 x.fk.ii.length c2,G A3 x.fV.length c3] x (S0++S1++S2++S3):=by
 have h:pd.O w [G A0 x.fk.fo.length c0,G A1 x.fk.ft.length c1,G A2 x.fk.ii.length c2,G A3 x.fV.length c3] x ((S0++(S1++S2))++S3):=⟨[G A0 x.fk.fo.length c0,G A1 x.fk.ft.length c1,G A2 x.fk.ii.length c2],[G A3 x.fV.length c3],(S0++(S1++S2)),S3,rfl,rfl,⟨[G A0 x.fk.fo.length c0],[G A1 x.fk.ft.length c1,G A2 x.fk.ii.length c2],S0,(S1++S2),rfl,rfl,h0,⟨[G A1 x.fk.ft.length c1],[G A2 x.fk.ii.length c2],S1,S2,rfl,rfl,h1,h2⟩⟩,h3⟩
 simpa using h
theorem I7 {xs:Q gK} (h:(kK.sl e).R w B [G A n c] xs){k:Nat}(hk:k<xs.length) :
  ∃ g off x ,A=D ⟨g,off,C⟩/\g<B/\xs[k]?=D x/\Rb w ⟨g,off+k*4,C⟩=D (J Z x.kw)/\Rb w ⟨g,off+k*4+1,C⟩=D (J Z x.PP)/\Rb w ⟨g,off+k*4+2,C⟩=D (H x.Frame)/\Rb w ⟨g,off+k*4+3,C⟩=D (J Z x.fF)/\fE x.kw/\fE x.PP/\fE x.fF:=by
 obtain⟨g,off,x,ec,h1,hB,h2,h3,h4⟩:=nU h hk;obtain⟨rfl,hf⟩:=PN h3;exact⟨g,off,x,h1,hB,h2,h4 0 _ rfl,h4 1 _ rfl,h4 2 _ rfl,h4 3 _ rfl,hf⟩
theorem Lb:(prog.info? 205).map (fun i=>(i.zero,i.size,i.bytes))=D (D (.agg #[J Z 0,J Z 0,H I,J Z 0]),4,32):=Fs
theorem Ce:kB kK:=xt _ (oS zE (oS zE (oS Gt zE)))
theorem C5:hU prog 104 205 kK 32:=by
 obtain⟨i0,hi,a0,a1,a2⟩:=Tn Lb;exact⟨underlying104,⟨i0,_,hi,a0,a1,a2,rfl⟩,qo⟩
theorem DK {xs:Q iu} (h:(lE.sl e).R w B [G A n c] xs){k:Nat}(hk:k<xs.length) :
  ∃ g off x ,A=D ⟨g,off,C⟩/\g<B/\xs[k]?=D x/\Rb w ⟨g,off+k*3,C⟩=D (J Z x.us)/\Rb w ⟨g,off+k*3+1,C⟩=D (J Z x.fG)/\Rb w ⟨g,off+k*3+2,C⟩=D (H x.kw)/\fE x.us/\fE x.fG:=by
 obtain⟨g,off,x,ec,h1,hB,h2,h3,h4⟩:=nU h hk;obtain⟨rfl,hf⟩:=QA h3;exact⟨g,off,x,h1,hB,h2,h4 0 _ rfl,h4 1 _ rfl,h4 2 _ rfl,hf⟩
theorem Ml:(prog.info? 216).map (fun i=>(i.zero,i.size,i.bytes))=D (D (.agg #[J Z 0,J Z 0,H I]),3,24):=Fs
theorem Im:kB lE:=xt _ (oS zE (oS zE Gt))
theorem Jm:hU prog 105 216 lE 24:=by
 obtain⟨i0,hi,a0,a1,a2⟩:=Tn Ml;exact⟨underlying105,⟨i0,_,hi,a0,a1,a2,rfl⟩,qo⟩
theorem Be {xs:Q fQ} (h:(kE.sl e).R w B [G A n c] xs){k:Nat}(hk:k<xs.length) :
  ∃ g off x ,A=D ⟨g,off,C⟩/\g<B/\xs[k]?=D x/\Rb w ⟨g,off+k*5,C⟩=D (J Z x.kw)/\Rb w ⟨g,off+k*5+1,C⟩=D (J Z x.PP)/\Rb w ⟨g,off+k*5+2,C⟩=D (J Z x.Do)/\Rb w ⟨g,off+k*5+3,C⟩=D (J Z x.fG)/\Rb w ⟨g,off+k*5+4,C⟩=D (V x.pu)/\fE x.kw/\fE x.PP/\fE x.Do/\fE x.fG/\x.pu.size<=9223372036854775807:=by
 obtain⟨g,off,x,ec,h1,hB,h2,h3,h4⟩:=nU h hk;obtain⟨rfl,hf⟩:=Nj h3;exact⟨g,off,x,h1,hB,h2,h4 0 _ rfl,h4 1 _ rfl,h4 2 _ rfl,h4 3 _ rfl,h4 4 _ rfl,hf⟩
theorem JY:(prog.info? 214).map (fun i=>(i.zero,i.size,i.bytes))=D (D (.agg #[J Z 0,J Z 0,J Z 0,J Z 0,V ⟨#[]⟩]),5,48):=Fs
theorem DW:kB kE:=xt _ (oS zE (oS zE (oS zE (oS zE lA))))
theorem EA:hU prog 106 214 kE 48:=by
 obtain⟨i0,hi,a0,a1,a2⟩:=Tn JY;exact⟨underlying106,⟨i0,_,hi,a0,a1,a2,rfl⟩,qo⟩
def AZ (x:gE)(w:U)(r:Ending)(w':U):Prop:=∃ A0 c0 A1 c1 A2 c2 A3 c3,r=.returned (.agg #[J Z x.Id,G A0 x.fm.length c0,G A1 x.fW.length c1,G A2 x.AC.length c2,G A3 x.fI.length c3])/\fU mn w w' [J Z x.Id,G A0 x.fm.length c0,G A1 x.fW.length c1,G A2 x.AC.length c2,G A3 x.fI.length c3] x/\fu w w'
theorem Fu {x:gE} {S4:Q Nat} (h0:fE x.Id)(h1:(jm.sl 137).O w [G A0 x.fm.length c0] x.fm S1)(h2:(kK.sl 205).O w [G A1 x.fW.length c1] x.fW S2)(h3:(lE.sl 216).O w [G A2 x.AC.length c2] x.AC S3)(h4:(kE.sl 214).O w [G A3 x.fI.length c3] x.fI S4):mn.O w [J Z x.Id,G A0 x.fm.length c0,G A1 x.fW.length c1,G A2 x.AC.length c2,G A3 x.fI.length c3] x (S1++S2++S3++S4):=by
 have h:mn.O w [J Z x.Id,G A0 x.fm.length c0,G A1 x.fW.length c1,G A2 x.AC.length c2,G A3 x.fI.length c3] x ([]++(S1++(S2++(S3++S4)))):=⟨[J Z x.Id],[G A0 x.fm.length c0,G A1 x.fW.length c1,G A2 x.AC.length c2,G A3 x.fI.length c3],[],(S1++(S2++(S3++S4))),rfl,rfl,⟨rfl,h0.1,h0.2,rfl⟩,⟨[G A0 x.fm.length c0],[G A1 x.fW.length c1,G A2 x.AC.length c2,G A3 x.fI.length c3],S1,(S2++(S3++S4)),rfl,rfl,h1,⟨[G A1 x.fW.length c1],[G A2 x.AC.length c2,G A3 x.fI.length c3],S2,(S3++S4),rfl,rfl,h2,⟨[G A2 x.AC.length c2],[G A3 x.fI.length c3],S3,S4,rfl,rfl,h3,h4⟩⟩⟩⟩
 simpa using h
theorem K7 {x:gE} {u2 u3 u4:U} {m2 m3 m4:Nat} (h0:fE x.Id)(h1:kC (jm.sl 137) u1 m1 W [G A0 x.fm.length c0] x.fm)(h2:kC (kK.sl 205) u2 m2 W [G A1 x.fW.length c1] x.fW)(h3:kC (lE.sl 216) u3 m3 W [G A2 x.AC.length c2] x.AC)(h4:kC (kE.sl 214) u4 m4 W [G A3 x.fI.length c3] x.fI)(hw1:w.heap.size<=u1.heap.size)(hw2:w.heap.size<=u2.heap.size)(hw3:w.heap.size<=u3.heap.size)(hw4:w.heap.size<=u4.heap.size)(hd1_2:m1<=u2.heap.size∨m2<=u1.heap.size)(hd1_3:m1<=u3.heap.size∨m3<=u1.heap.size)(hd1_4:m1<=u4.heap.size∨m4<=u1.heap.size)(hd2_3:m2<=u3.heap.size∨m3<=u2.heap.size)(hd2_4:m2<=u4.heap.size∨m4<=u2.heap.size)(hd3_4:m3<=u4.heap.size∨m4<=u3.heap.size):fU mn w W [J Z x.Id,G A0 x.fm.length c0,G A1 x.fW.length c1,G A2 x.AC.length c2,G A3 x.fI.length c3] x:=by
 obtain⟨S1,a8,a4,a0⟩:=h1;obtain⟨S2,a9,a5,a1⟩:=h2;obtain⟨S3,aa,a6,a2⟩:=h3;obtain⟨S4,ab,a7,a3⟩:=h4;exact⟨_,Fu h0 a8 a9 aa ab,RM.2 ⟨RM.2 ⟨RM.2 ⟨a4,a5,fun a ha b hb=>(by have h1:=a0 a ha;have h2:=a1 b hb;omega)⟩,a6,fun a ha b hb=>(Rr.1 ha).elim (fun ha=>(by have h1:=a0 a ha;have h2:=a2 b hb;omega)) (fun ha=>(by have h1:=a1 a ha;have h2:=a2 b hb;omega))⟩,a7,fun a ha b hb=>(Rr.1 ha).elim (fun ha=>(Rr.1 ha).elim (fun ha=>(by have h1:=a0 a ha;have h2:=a3 b hb;omega)) (fun ha=>(by have h1:=a1 a ha;have h2:=a3 b hb;omega))) (fun ha=>(by have h1:=a2 a ha;have h2:=a3 b hb;omega))⟩,fun b hb=>(Rr.1 hb).elim (fun hb=>(Rr.1 hb).elim (fun hb=>(Rr.1 hb).elim (fun hb=>(by have:=a0 b hb;omega)) (fun hb=>(by have:=a1 b hb;omega))) (fun hb=>(by have:=a2 b hb;omega))) (fun hb=>(by have:=a3 b hb;omega))⟩
theorem Is {xs:Q gE} (h:(mn.sl e).R w B [G A n c] xs){k:Nat}(hk:k<xs.length) :
  ∃ g off x A0 c0 A1 c1 A2 c2 A3 c3,A=D ⟨g,off,C⟩/\g<B/\xs[k]?=D x/\Rb w ⟨g,off+k*5,C⟩=D (J Z x.Id)/\Rb w ⟨g,off+k*5+1,C⟩=D (G A0 x.fm.length c0)/\Rb w ⟨g,off+k*5+2,C⟩=D (G A1 x.fW.length c1)/\Rb w ⟨g,off+k*5+3,C⟩=D (G A2 x.AC.length c2)/\Rb w ⟨g,off+k*5+4,C⟩=D (G A3 x.fI.length c3)/\fE x.Id/\(jm.sl 137).R w B [G A0 x.fm.length c0] x.fm/\(kK.sl 205).R w B [G A1 x.fW.length c1] x.fW/\(lE.sl 216).R w B [G A2 x.AC.length c2] x.AC/\(kE.sl 214).R w B [G A3 x.fI.length c3] x.fI:=by
 obtain⟨g,off,x,ec,h1,hB,h2,h3,h4⟩:=nU h hk;obtain⟨A0,c0,A1,c1,A2,c2,A3,c3,rfl,hf⟩:=Hw h3;exact⟨g,off,x,A0,c0,A1,c1,A2,c2,A3,c3,h1,hB,h2,h4 0 _ rfl,h4 1 _ rfl,h4 2 _ rfl,h4 3 _ rfl,h4 4 _ rfl,hf⟩
theorem JW:(prog.info? 108).map (fun i=>(i.zero,i.size,i.bytes))=D (D (.agg #[J Z 0,G C 0 0,G C 0 0,G C 0 0,G C 0 0]),5,104):=Fs
theorem OU:hU prog 29 108 mn 104:=by
 obtain⟨i0,hi,a0,a1,a2⟩:=Tn JW;exact⟨underlying29,⟨i0,_,hi,a0,a1,a2,rfl⟩,qo⟩
theorem Mj {x:iZ} {S0:Q Nat} (h0:kY.O w [G A0 x.fk.fo.length c0,G A1 x.fk.ft.length c1,G A2 x.fk.ii.length c2] x.fk S0)(h1:(mn.sl 108).O w [G A3 x.fV.length c3] x.fV S1):pd.O w [G A0 x.fk.fo.length c0,G A1 x.fk.ft.length c1,G A2 x.fk.ii.length c2,G A3 x.fV.length c3] x (S0++S1):=by
 have h:pd.O w [G A0 x.fk.fo.length c0,G A1 x.fk.ft.length c1,G A2 x.fk.ii.length c2,G A3 x.fV.length c3] x (S0++S1):=⟨[G A0 x.fk.fo.length c0,G A1 x.fk.ft.length c1,G A2 x.fk.ii.length c2],[G A3 x.fV.length c3],S0,S1,rfl,rfl,h0,h1⟩
 exact h
theorem K6 {x:iZ} {u0:U} {m0:Nat} (h0:kC kY u0 m0 W [G A0 x.fk.fo.length c0,G A1 x.fk.ft.length c1,G A2 x.fk.ii.length c2] x.fk)(h1:kC (mn.sl 108) u1 m1 W [G A3 x.fV.length c3] x.fV)(hw0:w.heap.size<=u0.heap.size)(hw1:w.heap.size<=u1.heap.size)(hd0_1:m0<=u1.heap.size∨m1<=u0.heap.size):fU pd w W [G A0 x.fk.fo.length c0,G A1 x.fk.ft.length c1,G A2 x.fk.ii.length c2,G A3 x.fV.length c3] x:=by
 obtain⟨S0,a4,a2,a0⟩:=h0;obtain⟨S1,a5,a3,a1⟩:=h1;exact⟨_,Mj a4 a5,RM.2 ⟨a2,a3,fun a ha b hb=>(by have h1:=a0 a ha;have h2:=a1 b hb;omega)⟩,fun b hb=>(Rr.1 hb).elim (fun hb=>(by have:=a0 b hb;omega)) (fun hb=>(by have:=a1 b hb;omega))⟩
section
variable {P:Program} {ops:Array Oper} {Q8:Exit->Act->U->Prop} {md:Ub} {S:U->Prop} {m:Nat}
def fA (P:Program)(md:Ub)(ops:Array Oper)(Q8:Exit->Act->U->Prop)(S:U->Prop)(m:Nat):Nat->Array Bool->Act->U->Prop
 | 0,listed,a,w=>Sn md ops listed = []/\Q8 .normal a w
 | f+1,listed,a,w=>(Sn md ops listed = []->Q8 .normal a w)/\
   ∀ i∈Sn md ops listed,wpOp P ops Q8 i (fun a' w'=>(i≠m->S w')/\fA P md ops Q8 S m f (listed.setIfInBounds i M) a' w') a w
theorem fA.any:∀{f:Nat}{listed:Array Bool}{a:Act}{w:U},fA P md ops Q8 S m f listed a w->wpAny P md ops Q8 f listed a w
 | 0,_,_,_,h=>h
 | _+1,_,_,_,h=>⟨h.1,fun i hi=>wpOp_mono (fun _ _ h'=>h'.2.any) (h.2 i hi)⟩
def rM (md:Ub)(ops:Array Oper)(m:Nat):Nat->Q Nat->Bool
 | i,[]=>i == m
 | i,c::cs=>(match ops[c]? with
   | some o=>o.after.any fun e=>Region.binds md e && e.on == i
   | none=>I) && rM md ops m c cs
theorem N5:∀(cs:Q Nat)(i:Nat),rM md ops m i cs=M->listed.getD i M=I->(∀ c∈cs,listed.getD c M=I)->(∀ c∈cs,c∉Sn md ops listed)/\(cs≠[]->m∈cs):=by
 intro cs;induction cs with
 | nil=>intro i _ _ _;simp
 | cons c cs ih=>
  intro i hl hi hc;simp only[rM,Rq] at hl;obtain⟨a2,a1⟩:=hl;have a3:=hc c II;obtain⟨h1,h2⟩:=ih c a1 a3 (fun d hd=>hc d (by simp[hd]))
  have a4:c∉Sn md ops listed:=by
   intro hr;obtain⟨_,o,ho,a0⟩:=mem_ready.1 hr;rw[ho] at a2;obtain⟨e,he,hb⟩:=Array.any_eq_true'.1 a2;simp only[Rq,RQ] at hb;have h3:=a0 e he hb.1;rw[hb.2] at h3;rcases UU i listed.size with h' | h'
   ·simp[h'] at hi h3
    rw[hi] at h3;cases h3
   ·simp[TM h'] at hi
  refine⟨fun d hd=>?_,fun _=>?_⟩
  ·rcases RO.1 hd with rfl | hd
   ·exact a4
   ·exact h1 d hd
  ·cases cs with
   | nil=>
    simp only[rM,RQ] at a1;subst a1;simp
   | cons d ds=>exact SV _ (h2 II)
theorem fA.first {cs:Q Nat} (hi:ops[i]?=D oi)(hsel:TZ ops=M)(hlk:rM md ops m i cs=M)(hne:cs≠[])
  (hQ:∀ c a w,Q8 (.panic c) (a.put oi.dst v) w->Q8 (.panic c) a w) :
  ∀(f:Nat) (listed:Array Bool) (a:Act) (w:U),(∀ j oj,ops[j]?=D oj->j≠i->listed.getD j M=I->(∀ e∈oj.after,Region.binds md e=M->e.on≠i)->oi.apart ops oj=M)->
   (∀ c∈cs,listed.getD c M=I)->i∈Sn md ops listed->YieldsIf P ops S oi v a->S w->
   fA P md ops Q8 S m f (listed.setIfInBounds i M) (a.put oi.dst v) w->fA P md ops Q8 S m (f+1) listed a w:=by
 intro f;induction f with
 | zero=>
  intro listed a w _ _ hr hy hS Q6;refine⟨fun h=>absurd hr (by rw[h];simp),fun j hj=>?_⟩;by_cases hji:j=i
  ·subst hji
   exact hy.wpOp hi hS ⟨fun _=>hS,Q6⟩
  ·exact absurd (ready_mono hj hji) (by rw[Q6.1];simp)
 | succ f ih=>
  intro listed a w a0 a5 hr hy hS Q6;have a1:=(mem_ready.1 hr).1;obtain⟨a4,a7⟩:=N5 cs i hlk a1 a5;refine⟨fun h=>absurd hr (by rw[h];simp),fun j hj=>?_⟩;by_cases hji:j=i
  ·subst hji
   exact hy.wpOp hi hS ⟨fun _=>hS,Q6⟩
  ·have aa:j≠m:=fun h=>a4 j (h ▸ a7 hne) hj
   have a9:j∉cs:=fun h=>a4 j h hj;obtain⟨a6,oj,a3,a2⟩:=mem_ready.1 hj
   have ab:∀ e∈oj.after,Region.binds md e=M->e.on≠i:=by
    intro e he hb a8;have h1:=a2 e he hb;rw[a8] at h1;rcases UU i listed.size with h' | h'
    ·simp[h'] at a1 h1
     rw[a1] at h1;cases h1
    ·simp[TM h'] at a1
   have h2:=wpOp_putIf a3 (a0 j oj a3 hji a6 ab) (fun c b=>Region.noSelect_spec hsel i oi c b hi) (fun c b=>Region.noSelect_spec hsel j oj c b a3) hQ hy (Q6.2 j (ready_mono hj hji));refine wpOp_mono (fun a' w' h3=>?_) h2;obtain⟨h4,h5,h6⟩:=h3;refine⟨h5,ih (listed.setIfInBounds j M) a' w' (fun k ok hk hki hun hnk=>?_) (fun c hc=>?_) (ready_mono hr (Ne.symm hji)) h4 (h5 aa) (by rw[Array.setIfInBounds_comm _ _ hji];exact h6)⟩
   ·by_cases hjk:j=k
    ·subst hjk
     exact a0 j ok hk hki a6 hnk
    ·rw[Vi M hjk] at hun
     exact a0 k ok hk hki hun hnk
   ·rw[Vi M (show j≠c from fun h=>a9 (by rw[h];exact hc))]
    exact a5 c hc
def um (listed:Array Bool)(cs:Q Nat):Bool:=cs.all fun c=>!listed.getD c M
theorem fA.take {cs:Q Nat} (hi:ops[i]?=D oi)(hsel:TZ ops=M)(hf:Wu md ops listed i=M)(hr:(Sn md ops listed).contains i=M)
  (hlk:rM md ops m i cs=M) (hne:cs.isEmpty=I) (hun:um listed cs=M) (hQ:∀ c a w,Q8 (.panic c) (a.put oi.dst v) w->Q8 (.panic c) a w) (hS:S w)
  (hw:RV oi (Th ops a.tmps)=M) (hy:∀ w,S w->(execOp a.eval oi).run P w=.ok (.value v) w)
  (h:fA P md ops Q8 S m f (listed.setIfInBounds i M) (a.put oi.dst v) w):fA P md ops Q8 S m (f+1) listed a w:=
 fA.first hi hsel hlk (by cases cs <;> simp at hne |-) hQ f listed a w (Region.free_spec hi hf) (fun c hc=>by
  simp only[um,Td,Uq] at hun
  exact hun c hc) (by simpa using hr) (.inl ⟨hw,hy⟩) hS h
theorem fA.one (hr:Sn md ops listed = [i])(ho:ops[i]?=D o)
  (h:∀ K:Act->U->Prop,Hid (∀ a w,S w->(S w->fA P md ops Q8 S m f (listed.setIfInBounds i M) a w)->K a w)->if RV o (Th ops a.tmps)=M then Oper.wp P o a w K Q8 else K (a.put o.dst Ug) w):fA P md ops Q8 S m (f+1) listed a w:=
 ⟨fun h0=>absurd (hr.symm.trans h0) (by simp),fun j hj=>by
  obtain rfl:j=i:=by simpa[hr] using hj
  exact wpOp_step ho (fun K hK=>h K (fh fun a w hS hT=>hK a w ⟨fun _=>hS,hT hS⟩))⟩
theorem fA.last (hr:Sn md ops listed = [m])(ho:ops[m]?=D o)(hd:Sn md ops (listed.setIfInBounds m M) = [])
  (h:∀ K:Act->U->Prop,Hid (∀ a w,Q8 .normal a w->K a w)->if RV o (Th ops a.tmps)=M then Oper.wp P o a w K Q8 else K (a.put o.dst Ug) w):fA P md ops Q8 S m (f+1) listed a w:=
 ⟨fun h0=>absurd (hr.symm.trans h0) (by simp),fun j hj=>by
  obtain rfl:j=m:=by simpa[hr] using hj
  refine wpOp_step ho (fun K hK=>h K (fh fun a w hq=>hK a w ⟨fun h=>absurd rfl h,?_⟩));cases f with
  | zero=>exact⟨hd,hq⟩
  | succ f=>exact⟨fun _=>hq,by rw[hd];simp⟩⟩
theorem zX {id:Nat} (S:U->Prop)(m:Nat)(hm:P.follows .mixedOrders=M)(hS:S w.drew)
  (h:S w.drew->fA P .any ops Q8 S m ops.size (Array.replicate ops.size I) a w.drew):(Code.region id ops M).wp P Q8 a w:=
 wp_region_any hm (h hS).any
end
theorem fA.tk {Q8:Exit->Act->U->Prop} {md:Ub} {S:U->Prop} {m:Nat} (i:Nat)(cs:Q Nat){oi:Oper}{v:Value}{f:Nat}{listed:Array Bool}{a a2:Act}{w:U}(hS:S w)(h:fA P md ops Q8 S m f (listed.setIfInBounds i M) a2 w)
  (hi:ops[i]?=D oi:=by exact rfl) (hsel:TZ ops=M:=by kernel_rfl) (hf:Wu md ops listed i=M:=by kernel_rfl) (hr:(Sn md ops listed).contains i=M:=by kernel_rfl) (hlk:rM md ops m i cs=M:=by kernel_rfl) (hne:cs.isEmpty=I:=by exact rfl) (hun:um listed cs=M:=by kernel_rfl)
  (hQ:∀ c a w,Q8 (.panic c) (a.put oi.dst v) w->Q8 (.panic c) a w:=by exact fun _ _ _ h=>h) (hw:RV oi (Th ops a.tmps)=M:=by kernel_rfl) (hy:∀ w,S w->(execOp a.eval oi).run P w=.ok (.value v) w:=by intro w hSw;(try dsimp only at hSw);go_simp;(try with_reducible rfl)) (ha:a.put oi.dst v=a2:=by(try simp only[lay]) <;> exact rfl):fA P md ops Q8 S m (f+1) listed a w:=
 fA.take hi hsel hf hr hlk hne hun hQ hS hw hy (ha ▸ h)
theorem fA.tq {Q8:Exit->Act->U->Prop} {md:Ub} {S:U->Prop} {m:Nat} (i:Nat)(cs:Q Nat){oi:Oper}{v:Value}{f:Nat}{listed:Array Bool}{a a2:Act}{w:U}(hS:S w)(h:fA P md ops Q8 S m f (listed.setIfInBounds i M) a2 w)
  (hi:ops[i]?=D oi:=by exact rfl) (hsel:TZ ops=M:=by kernel_rfl) (hf:Wu md ops listed i=M:=by kernel_rfl) (hr:(Sn md ops listed).contains i=M:=by kernel_rfl) (hlk:rM md ops m i cs=M:=by kernel_rfl) (hne:cs.isEmpty=I:=by exact rfl) (hun:um listed cs=M:=by kernel_rfl)
  (hQ:∀ c a w,Q8 (.panic c) (a.put oi.dst v) w->Q8 (.panic c) a w:=by exact fun _ _ _ h=>h) (hw:RV oi (Th ops a.tmps)=M:=by first | rfl | kernel_rfl) (hy:∀ w,S w->(execOp a.eval oi).run P w=.ok (.value v) w:=by intro w hSw;(try dsimp only at hSw);go_simp;(try with_reducible rfl)) (ha:a.put oi.dst v=a2:=by(try simp only[lay]) <;> exact rfl):fA P md ops Q8 S m (f+1) listed a w:=
 fA.take hi hsel hf hr hlk hne hun hQ hS hw hy (ha ▸ h)
end Go.Proofs.YthgbglbaemelhaaGreat
