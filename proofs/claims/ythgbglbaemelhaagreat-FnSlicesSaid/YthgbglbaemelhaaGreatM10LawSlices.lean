/-
  PART.
-/
import Derived.Test.YthgbglbaemelhaaGreatM9LawSlices
set_option linter.unusedVariables false
set_option linter.unusedSimpArgs false
set_option maxRecDepth 100000
set_option maxHeartbeats 8000000
namespace Go.Proofs.YthgbglbaemelhaaGreat
open Value renaming slice->G,int->J,bool->H,string->V
open IntKind renaming i64->C,wrap->QP
open Option renaming none->D,some->Z
open Obj renaming cells->F
open Bool renaming false->I,true->M
open Go renaming World->U,Calls->Rh,Addr->Ri
open World renaming cell?->QL,frozen?->Rb
open RowKit renaming intOf->Ry
open _root_.Nat renaming add_zero->RK
open Tryz
open Go.RowKit
variable {A A':X Ri}{L S S':Q Nat}{W W' w:U}{c c' g k n:Nat}{e:TypeId}{m:fS}{rows:Q (Q Value)}
def mY (n:Nat):Ty (Q Value) where
 size:=n
 R:=fun _ _ cs x=>cs=x/\x.length=n/\∀ u∈x,u.oneCell'=M
 O:=fun _ cs x S=>cs=x/\x.length=n/\(∀ u∈x,u.oneCell'=M)/\S = []
 kZ:=by rintro _ _ _ _ ⟨rfl,h,_⟩;exact h
 ju:=by rintro _ _ _ _ ⟨rfl,h,_⟩;exact h
 lB:=by rintro _ _ _ _ ⟨rfl,_,h,_⟩;exact h
 lU:=by rintro _ _ _ _ ⟨rfl,_,h⟩;exact h
 iG:=by rintro _ _ _ _ _ _ h _ _;exact h
 gD:=by rintro _ _ _ _ _ h _;exact h
 ja:=by rintro _ _ _ _ ⟨_,_,_,rfl⟩ k hk;simp at hk
 OR:=by rintro _ _ _ _ _ ⟨h1,h2,h3,_⟩ _;exact⟨h1,h2,h3⟩
theorem CR (n:Nat):kA (mY n):=fun⟨h1,h2,h3⟩ _=>⟨h1,h2,h3,rfl⟩
theorem LM:(prog.info? 253).map (fun i=>(i.zero,i.size,i.bytes))=Z (Z (.agg #[J C 0,G D 0 0,G D 0 0,J C 0,H I,G D 0 0]),6,96):=by kernel_rfl
theorem Ii:gZ prog 249 253 (mY 6) 96:=by
 obtain⟨i0,hi,a0,a1,a2⟩:=SJ LM;exact⟨underlying249,⟨i0,_,hi,a0,a1,a2,rfl⟩,by decide⟩
structure jj where
 E:fW
 b:fV
 A:X Ri
 c:Nat
 g:Nat
 Y:U
structure ig (P:jj)(m:fS)(rows:Q (Q Value))(W:U)(Ai:X Ri)(ci:Nat)(Si:Q Nat)(As:X Ri)(cs:Nat)(Ss:Q Nat):Prop where
 box:W.heap[P.g]?=Z (F #[G P.A P.E.p.length P.c,J C P.b.Frames,J C P.E.inl,H P.b.Fold,H P.b.Split,H P.E.gV,J C P.E.words,J C m.gL,J C P.E.args,J C m.depth,G Ai m.items.length ci,G As rows.length cs,H m.start] 251 (0,0))
 hJ:Has (oT.sl 227) W [G Ai m.items.length ci] m.items Si
 nh:Has ((mY 6).sl 253) W [G As rows.length cs] rows Ss
 jS:∀ b∈Si,b∉Ss
 gn:P.g∉Si/\P.g∉Ss
 fx:ft P.Y W
 low:P.Y.heap.size<=P.g/\(∀ b∈Si,P.Y.heap.size<=b)/\∀ b∈Ss,P.Y.heap.size<=b
def jf (P:jj)(m:fS)(rows:Q (Q Value))(W:U)(L:Q Nat):Prop:=
 ∃ Ai ci Si As cs Ss,ig P m rows W Ai ci Si As cs Ss/\L=P.g::(Si++Ss)
def gC (P:jj)(m':fS)(rows':Q (Q Value))(W:U)(L:Q Nat)(W':U):Prop:=
 ∃ L',jf P m' rows' W' L'/\fw L W W'/\∀ b∈L',b∈L∨W.heap.size<=b
theorem nr {o0 o1 o2 o3 o4 o5 o6 o7 o8 o9 o10 o11 o12:Value} (h:W.heap[g]?=Z (F #[o0,o1,o2,o3,o4,o5,o6,o7,o8,o9,o10,o11,o12] e (0,0))) :
  QL W ⟨g,0,D⟩=Z o0/\QL W ⟨g,1,D⟩=Z o1/\QL W ⟨g,2,D⟩=Z o2/\QL W ⟨g,3,D⟩=Z o3/\QL W ⟨g,4,D⟩=Z o4/\QL W ⟨g,5,D⟩=Z o5/\QL W ⟨g,6,D⟩=Z o6/\QL W ⟨g,7,D⟩=Z o7/\QL W ⟨g,8,D⟩=Z o8/\QL W ⟨g,9,D⟩=Z o9/\QL W ⟨g,10,D⟩=Z o10/\QL W ⟨g,11,D⟩=Z o11/\QL W ⟨g,12,D⟩=Z o12/\(∀ j,Rb W ⟨g,j,D⟩=I)/\g<W.heap.size:=by
 refine⟨?_,?_,?_,?_,?_,?_,?_,?_,?_,?_,?_,?_,?_,fun j=>by simp[Rb,h],(blt h)⟩
 all_goals
  rw[RV W g _ _ _ (0,0) h]
  rfl
theorem fw.then {S1:Q Nat} {a b c:U} (h:fw S a b)(k:fw S1 b c)(hs:∀ x∈S1,x∈S∨a.heap.size<=x):fw S a c:=
 ⟨k.os.trans h.os,k.tape.trans h.tape,k.output.trans h.output,Rj h.size k.size,fun i hi hn=>(k.block i (QS hi h.size) (fun hm=>(hs i hm).elim hn (fun hh=>by omega))).trans (h.block i hi hn)⟩
theorem jf.iU {P:jj} (h:jf P m rows W L):P.g∈L/\P.g<W.heap.size/\(∀ b∈L,b<W.heap.size)/\(∀ b∈L,P.Y.heap.size<=b)/\ft P.Y W:=by
 obtain⟨Ai,ci,Si,As,cs,Ss,h,rfl⟩:=h;have hg:=(blt h.box)
 refine⟨by simp,hg,fun b hb=>?_,fun b hb=>?_,h.fx⟩
 ·rcases Rp.1 hb with rfl | hb
  ·exact hg
  ·rcases Q7.1 hb with hb | hb
   ·exact h.hJ.lt b hb
   ·exact h.nh.lt b hb
 ·rcases Rp.1 hb with rfl | hb
  ·exact h.low.1
  ·rcases Q7.1 hb with hb | hb
   ·exact h.low.2.1 b hb
   ·exact h.low.2.2 b hb
theorem gC.refl {P:jj}{m:fS}{rows:Q (Q Value)}{W:U}{L:Q Nat}(h:jf P m rows W L):gC P m rows W L W:=
 ⟨L,h,fw.refl _ _,fun _ hb=>.inl hb⟩
theorem uR {g:Prop} (f:g:=by
  obtain⟨L2,h2,ho2,hl2⟩:=k
  refine⟨L2,h2,ho.then ho2 hl,fun b hb=>?_⟩
  rcases hl2 b hb with hb | hb
  ·exact hl b hb
  ·exact .inr (Rj ho.size hb)):g:=f
theorem gC.trans {P:jj} {m1 m2:fS} {r1 r2:Q (Q Value)} {W1 W2:U} {L1:Q Nat} (_h:jf P m1 r1 W1 L1)(ho:fw L W W1)(hl:∀ b∈L1,b∈L∨W.heap.size<=b)(k:gC P m2 r2 W1 L1 W2):gC P m2 r2 W L W2:=by
 exact uR
theorem jf.fx {P:jj}{m:fS}{rows:Q (Q Value)}{W W':U}{L:Q Nat}(h:jf P m rows W L)(hg:ft W W'):jf P m rows W' L:=by
 obtain⟨Ai,ci,Si,As,cs,Ss,h,rfl⟩:=h;exact⟨Ai,ci,Si,As,cs,Ss,⟨zj h.box hg,h.hJ.fx hg,h.nh.fx hg,h.jS,h.gn,h.fx.trans hg,h.low⟩,rfl⟩
theorem jf.cells {P:jj} (h:jf P m rows W L):∃ Ai ci As cs,
  QL W ⟨P.g,0,D⟩=Z (G P.A P.E.p.length P.c)/\QL W ⟨P.g,1,D⟩=Z (J C P.b.Frames)/\QL W ⟨P.g,2,D⟩=Z (J C P.E.inl)/\QL W ⟨P.g,5,D⟩=Z (H P.E.gV)/\QL W ⟨P.g,6,D⟩=Z (J C P.E.words)/\QL W ⟨P.g,7,D⟩=Z (J C m.gL)/\QL W ⟨P.g,8,D⟩=Z (J C P.E.args)/\QL W ⟨P.g,9,D⟩=Z (J C m.depth)/\QL W ⟨P.g,10,D⟩=Z (G Ai m.items.length ci)/\QL W ⟨P.g,11,D⟩=Z (G As rows.length cs)/\QL W ⟨P.g,12,D⟩=Z (H m.start)/\(∀ j,Rb W ⟨P.g,j,D⟩=I)/\P.g<W.heap.size:=by
 obtain⟨Ai,ci,Si,As,cs,Ss,h,rfl⟩:=h;obtain⟨z0,z1,z2,z3,z4,z5,z6,z7,z8,z9,a0,a1,a2,zf,zl⟩:=nr h.box;exact⟨Ai,ci,As,cs,z0,z1,z2,z5,z6,z7,z8,z9,a0,a1,a2,zf,zl⟩
theorem jf.num {P:jj} {m':fS} (h:jf P m rows W L){i:Nat}{v:Value}(hi:m'.items=m.items)
  (hrow:∀ a b c d e f g x y,(#[a,b,c,d,e,f,g,J C m.gL,J C P.E.args,J C m.depth,x,y,H m.start]:Array Value).setIfInBounds i v=#[a,b,c,d,e,f,g,J C m'.gL,J C P.E.args,J C m'.depth,x,y,H m'.start]) :
  jf P m' rows (W.setCell ⟨P.g,i,D⟩ v) L/\fw L W (W.setCell ⟨P.g,i,D⟩ v):=by
 obtain⟨Ai,ci,Si,As,cs,Ss,h,rfl⟩:=h;have a0:fw [P.g] W (W.setCell ⟨P.g,i,D⟩ v):=(fw.refl _ _).setCell (p:=⟨P.g,i,D⟩) (by simp) _;refine⟨⟨Ai,ci,Si,As,cs,Ss,⟨jb (i:=i) (v:=v) h.box (by rw[hrow,hi]),?_,?_,h.jS,h.gn,a0.fx h.fx (fun b hb=>by simp at hb;exact hb ▸ h.low.1),h.low⟩,rfl⟩,a0.mono (by simp)⟩
 ·rw[hi]
  exact h.hJ.fJ a0 (fun x hx hm=>by simp at hm;exact h.gn.1 (hm ▸ hx))
 ·exact h.nh.fJ a0 (fun x hx hm=>by simp at hm;exact h.gn.2 (hm ▸ hx))
theorem jf.arg {P:jj} (h:jf P m rows W L){j:Nat}{x:fP}(hx:m.items[j]?=Z x) :
  ∃ gi ci,QL W ⟨P.g,10,D⟩=Z (G (Z ⟨gi,0,D⟩) m.items.length ci)/\gi<W.heap.size/\gi≠P.g/\(∀ k,Rb W ⟨gi,k,D⟩=I)/\QL W ⟨gi,j*7+1,D⟩=Z (J C x.Op.Arg)/\
   ∀ v,fD v->jf P (m.iK (mw m.items j v)) rows (W.setCell ⟨gi,j*7+1,D⟩ (J C v)) L/\fw L W (W.setCell ⟨gi,j*7+1,D⟩ (J C v)):=by
 obtain⟨Ai,ci,Si,As,cs,Ss,h,rfl⟩:=h;obtain⟨gi,ec,Sc,rfl,a8,a9,ac,aa,ad,hO,a7,a0,a1,_⟩:=qt h.hJ.1 h.hJ.2 hx;obtain⟨A0,c0,S0,rfl,a5,b0,b1,b2,a4,b4⟩:=Hs hO;subst a5;have hz:oT.size=7:=rfl;rw[hz] at a0 a1;have a6:=a0 1 _ rfl;obtain⟨z0,z1,z2,z3,z4,z5,z6,z7,z8,z9,ab,ae,af,zf,zl⟩:=nr h.box;refine⟨gi,ci,ab,a9,fun e=>h.gn.1 (e ▸ a8),a7,a6,fun v hv=>?_⟩;have hp:=a1 1 (J C v) { x with Op:=⟨x.Op.Code,v⟩ } (by decide) rfl (CE (x:={ x with Op:=⟨x.Op.Code,v⟩ }) A0 c0 Sc b0 hv b2 a4 b4);have a2:mw m.items j v=m.items.set j { x with Op:=⟨x.Op.Code,v⟩ }:=by unfold mw;rw[hx]
 have a3:(m.items.set j { x with Op:=⟨x.Op.Code,v⟩ }).length=m.items.length:=Rn ..;refine⟨⟨Z ⟨gi,0,D⟩,ci,Si,As,cs,Ss,⟨?_,?_,h.nh.fJ hp.2 (fun b hb hm=>h.jS b hm hb),h.jS,h.gn,hp.2.fx h.fx h.low.2.1,h.low⟩,rfl⟩,hp.2.mono (fun b hb=>by simp[hb])⟩
 ·have hm:=(hp.2.block P.g (blt h.box) h.gn.1).trans h.box
  simp only[fS.iK,a2,a3];exact hm
 ·simp only[fS.iK,a2,a3]
  exact⟨hp.1,h.hJ.2⟩
theorem IC {xs:Q (Q Value)} {r:Q Value} (h:Has ((mY n).sl e) W [G A xs.length c] xs S)(hr:xs[k]?=Z r) :
  ∃ g,A=Z ⟨g,0,D⟩/\g∈S/\g<W.heap.size/\(∀ j,Rb W ⟨g,j,D⟩=I)/\r.length=n/\(∀ j u,r[j]?=Z u->QL W ⟨g,k*n+j,D⟩=Z u)/\
   ∀ j u,j<n->u.oneCell'=M->Has ((mY n).sl e) (W.setCell ⟨g,k*n+j,D⟩ u) [G A xs.length c] (xs.set k (r.set j u)) S/\fw S W (W.setCell ⟨g,k*n+j,D⟩ u):=by
 obtain⟨g,ec,Sc,rfl,a3,a4,a6,a5,a7,hO,a2,a0,a1,_⟩:=qt h.1 h.2 hr;obtain⟨rfl,hl,ho,rfl⟩:=hO;refine⟨g,rfl,a3,a4,a2,hl,fun j u hu=>a0 j u hu,fun j u hj hu=>?_⟩;have hp:=a1 j u (ec.set j u) hj hu ⟨rfl,by rw[Rn];exact hl,fun v hv=>?_,rfl⟩
 ·exact⟨⟨hp.1,h.2⟩,hp.2⟩
 ·rcases Tz hv with hv | rfl
  ·exact ho v hv
  ·exact hu
theorem ue {g:Prop} (f:g:=by
  obtain⟨A',c',h1,h2,h3,h4,h5⟩:=h
  injection h1 with h1 h1'
  injection h1 with hA hn hc
  subst hA hc hn
  refine⟨A,c,rfl,h2,h3,h4,fun hp=>?_⟩
  obtain⟨g,off,rfl,hg,h6⟩:=h5 hp
  refine⟨g,off,rfl,by have:=hs.size;omega,fun i x hx=>?_⟩
  obtain⟨ec,hR,hc⟩:=h6 i x hx
  exact⟨ec,T.read (hf hR W'),fun j u hu=>(hs.cell hg (by simpa using hk _ rfl) _).trans (hc j u hu)⟩):g:=f
theorem qR {α:Type} {T:Ty α} (hf:kA T){e:TypeId}{W W':U}{k:Nat}{A:X Ri}{n c:Nat}{xs:Q α}(h:(T.sl e).R W W.heap.size [G A n c] xs)(hs:fw [k] W W')(hk:∀ ad,A=Z ad->ad.block≠k):(T.sl e).R W' W'.heap.size [G A n c] xs:=by
 exact ue
structure lk (W:U)(k:Nat)(A0:X Ri)(c0:Nat)(vars:Q N)(A1:X Ri)(c1:Nat)(names:Q N)(A2:X Ri)(c2:Nat)(ars:Q Int):Prop where
 v:(iH.sl 9).R W W.heap.size [G A0 vars.length c0] vars
 n:(iH.sl 9).R W W.heap.size [G A1 names.length c1] names
 a:(zr.sl 3).R W W.heap.size [G A2 ars.length c2] ars
 kv:∀ ad,A0=Z ad->ad.block≠k
 kn:∀ ad,A1=Z ad->ad.block≠k
 ka:∀ ad,A2=Z ad->ad.block≠k
 len:names.length=ars.length
 ar:∀ a∈ars,0<=a/\a<=2
 lv:vars.length<=1000
 ln:names.length<=1000
variable {k:Nat} {A0:X Ri} {c0:Nat} {vars:Q N} {A1:X Ri} {c1:Nat} {names:Q N} {A2:X Ri} {c2:Nat} {ars:Q Int}
theorem lk.only (h:lk W k A0 c0 vars A1 c1 names A2 c2 ars)(hs:fw [k] W W'):lk W' k A0 c0 vars A1 c1 names A2 c2 ars:=
 ⟨qR lq h.v hs h.kv,qR lq h.n hs h.kn,qR zD h.a hs h.ka,h.kv,h.kn,h.ka,h.len,h.ar,h.lv,h.ln⟩
theorem lk.fx (h:lk W k A0 c0 vars A1 c1 names A2 c2 ars)(hg:ft W W'):lk W' k A0 c0 vars A1 c1 names A2 c2 ars:=h.only (hg.only _)
def nc (n:Nat):Nat:=if n<=1 then 1 else if n<=3 then 3 else 7
theorem PF (h:2<n)(h6:n<=6):1+nc (n / 2)+nc (n / 2)<=nc n:=by
 have:n=3∨n=4∨n=5∨n=6:=by omega
 rcases this with rfl | rfl | rfl | rfl <;> decide
theorem Nu (h:1<n)(h6:n<=6):1+2*nc (n / 4)<=nc n:=by
 have:n=2∨n=3∨n=4∨n=5∨n=6:=by omega
 rcases this with rfl | rfl | rfl | rfl | rfl <;> decide
theorem AI (n:Nat):1<=nc n/\nc n<=7:=by unfold nc;split <;> (try split) <;> omega
def oZ (w W:U)(k m:Nat)(e:Ending)(W':U):Prop:=∃ A c out S,e=.returned (G A out.length c)/\out.length<=m/\iM w W' k/\fw [k] W W'/\Has (iZ.sl 160) W' [G A out.length c] out S/\∀ b∈S,W.heap.size<=b
structure gM {α:Type}(T:Ty α)(t:TypeId)(w W0 W:U)(k:Nat)(A:X Ri)(n c:Nat)(out:Q α)(S:Q Nat):Prop where
 cur:iM w W k
 only:fw [k] W0 W
 has:Has (T.sl t) W [G A n c] out S
 lo:∀ b∈S,W0.heap.size<=b
 vD:k<W0.heap.size
 len:n=out.length
section
variable {α:Type} {T:Ty α} {t:TypeId} {w W0 W W':U} {k:Nat} {A:X Ri} {n c:Nat} {out:Q α} {S:Q Nat}
theorem gM.xp (h:gM T t w W0 W k A n c out S):k∉S:=fun hm=>by have:=h.lo k hm;have:=h.vD;omega
theorem gM.fx (h:gM T t w W0 W k A n c out S)(hg:ft W W'):gM T t w W0 W' k A n c out S:=
 ⟨h.cur.more hg,h.only.trans (hg.only _),h.has.fx hg,h.lo,h.vD,h.len⟩
theorem gM.call (h:gM T t w W0 W k A n c out S)(hs:fw [k] W W')(hC:iM w W' k):gM T t w W0 W' k A n c out S:=
 ⟨hC,h.only.trans hs,h.has.fJ hs (fun b hb hm=>by simp only[QN] at hm;subst hm;exact h.xp hb),h.lo,h.vD,h.len⟩
theorem gM.next {L:Nat} {out':Q α} {Sy:Q Nat} (h:gM T t w W0 W k A n c out S)(hon:fw S W W')(hH:Has (T.sl t) W' [G A' L c'] out' S')(hS:∀ b∈S',b∈S∨b∈Sy∨W.heap.size<=b)(hSy:∀ b∈Sy,W0.heap.size<=b)(hL:L=out'.length):gM T t w W0 W' k A' L c' out' S':=
 ⟨h.cur.only hon h.xp (fun b hb=>by have:=h.lo b hb;have:=h.vD;have:=h.cur.lo;omega),h.only.then hon (fun x hx=>.inr (h.lo x hx)),hH,fun b hb=>by
  rcases hS b hb with h1 | h1 | h1
  ·exact h.lo b h1
  ·exact hSy b h1
  ·have:=h.only.size;omega,h.vD,hL⟩
theorem gM.qO {L:Nat} {out':Q α} (h:gM T t w W0 W k A n c out S)(hon:fw S W W')(hH:Has (T.sl t) W' [G A' L c'] out' S')(hS:∀ b∈S',b∈S∨W.heap.size<=b)(hL:L=out'.length):gM T t w W0 W' k A' L c' out' S':=
 h.next (Sy:=[]) hon hH (fun b hb=>(hS b hb).elim .inl (fun h=>.inr (.inr h))) (fun b hb=>by cases hb) hL
theorem gM.one (hf:kA T){ec:Q Value}{x:α}{g:Nat}(hR:∀ W1,T.R W1 0 ec x)(hC:iM w W k)(hs:fw [k] W0 W)(hk:k<W0.heap.size)(hg:g=W.heap.size):∃ S,gM T t w W0 (W.alloc (F ec.toArray t)) k (Z ⟨g,0,D⟩) 1 1 [x] S:=by
 obtain⟨S3,a1,a2⟩:=(FU (T:=T) (e:=t) hf (W0:=W) (W:=W) (W1:=W) (B:=0) (hR W) (ft.refl _) hg).has;have a0:ft W (W.alloc (F ec.toArray t)):=gG;exact⟨S3,hC.more a0,hs.trans (a0.only _),a1,fun b hb=>by have:=a2 b hb;have:=hs.size;omega,hk,rfl⟩
end
theorem oZ.of {W0:U} {m:Nat} {out:Q gB} {e:Ending} (h:gM iZ 160 w W0 W k A n c out S)(hm:n<=m)(he:e=.returned (G A n c)):oZ w W0 k m e W:=by
 obtain rfl:=h.len;exact⟨A,c,out,S,he,hm,h.cur,h.only,h.has,h.lo⟩
theorem Db {cs:Array Value} (xs:Q Int)(hcs:cs.toList=xs.map (J C))(hn:n=xs.length)(hg:g=W.heap.size)(hb:∀ x∈xs,fD x)(hl:xs.length<=1000):(zr.sl e).R (W.alloc (F cs e)) (W.alloc (F cs e)).heap.size [G (Z ⟨g,0,D⟩) n n] xs:=by
 subst hn hg;have a0:=QO W (F cs e);refine⟨_,_,rfl,Q8 _,by omega,(by simp),fun _=>⟨_,0,rfl,by simp,fun i x hx=>⟨[J C x],⟨rfl,hb x (Q9 hx)⟩,fun j u hu=>?_⟩⟩⟩
 obtain⟨rfl,rfl⟩:j=0/\u=J C x:=by
  match j,hu with
  | 0,hu=>exact⟨rfl,by simpa using hu.symm⟩
  | j+1,hu=>simp at hu
 rw[RV _ _ _ _ _ _ a0];simp only[show zr.size=1 from rfl,Tq,RK,Rk];rw[<-Array.getElem?_toList,hcs,Um,hx];rfl
theorem zgV (hC:iM w W k)(n:Int)(hn:0<n)(hn2:n<=1099511627776):Rh prog 103 #[.pointer (Z ⟨k,0,D⟩),J C n] W fun e W'=>∃ b:Bool,e=.returned (H b)/\iM w W' k/\fw [k] W W':=by
 go_enter func103,ntmps103;go_wp2_with(go_at_call 36;(with_reducible refine(nO hC n hn hn2).mono ?_);rintro e W1 ⟨x,rfl,hx,a0,a1⟩);go_ret;exact⟨_,rfl,a0,a1⟩
theorem zqm:∀(n:Nat),n<=6->∀(m:Int),m=(n:Int)->∀{w W:U}{k:Nat}{A0:X Ri}{c0:Nat}{vars:Q N}{A1:X Ri}{c1:Nat}{names:Q N}{A2:X Ri}{c2:Nat}{ars:Q Int}(_:iM w W k)(_:lk W k A0 c0 vars A1 c1 names A2 c2 ars),
  Rh prog 187 #[.pointer (Z ⟨k,0,D⟩),J C m,G A0 vars.length c0,G A1 names.length c1,G A2 ars.length c2] W (oZ w W k (nc n)):=by
 intro n;induction n using Nat.strongRecOn with
 | _ n ih=>
 rintro hn m rfl w W k A0 c0 vars A1 c1 names A2 c2 ars hC hI;have IH:=fh ih;clear ih;go_enter func187,ntmps187;go_upto_region 2 with(go_at_call 36;(with_reducible refine(nO hC 10 (by decide) (by decide)).mono ?_);rintro e W1 ⟨x,rfl,hx,a9,a3⟩);have aR:=hI.only a3;go_cut [18] from 19 to 25 (fun v wx=>v=H (decide (2<n/\x<5))/\W1=wx)
 case first=>
  by_cases a5:2<n
  ·have ay:(2:Int)<(n:Int):=by omega
   by_cases ac:x<5
   ·have aB:(x:Int)<5:=by omega
    have HD:=fh (show M=decide (2<n/\x<5) from(QY ⟨a5,ac⟩).symm);clear a5 ac;go_wp2_with(fail);go_meet;exact⟨by rw[<-HD.out],rfl⟩
   ·have aB:¬ ((x:Int)<5):=by omega
    have HD:=fh (show I=decide (2<n/\x<5) from(QT (fun h=>ac h.2)).symm);clear a5 ac;go_wp2_with(fail);go_meet;exact⟨by rw[<-HD.out],rfl⟩
  ·have ay:¬ ((2:Int)<(n:Int)):=by omega
   have HD:=fh (show I=decide (2<n/\x<5) from(QT (fun h=>a5 h.1)).symm);clear a5;go_wp2_with(fail);go_meet;exact⟨by rw[<-HD.out],rfl⟩
 obtain⟨rfl,rfl⟩:=hcut;by_cases hbin:2<n/\x<5
 ·have HB:=fh (QY hbin)
  rw[QY hbin];obtain⟨a5,ac⟩:=hbin;have hq:QP C (Int.tdiv (n:Int) 2)=((n / 2:Nat):Int):=by rw[UC (by omega)];exact(iw).trans (by omega)
  have b2:=PF a5 hn;have aE:n / 2<n:=by omega
  have aD:n / 2<=6:=by omega
  have ba:=AI n;go_upto_region 4 with(go_at_call 36;(with_reducible refine(nO a9 5 (by decide) (by decide)).mono ?_);rintro e W2 ⟨y,rfl,hy,a2,a1⟩;have bd:QP C (2+(y:Int))=2+(y:Int):=iw);obtain⟨S3,h3⟩:=gM.one (t:=160) pP (ec:=[J C (2+(y:Int)),J C 0,V { data:=#[] }]) (x:=⟨2+(y:Int),0,{ data:=#[] }⟩) (fun W=>sK (x:=⟨2+(y:Int),0,{ data:=#[] }⟩) ⟨by simp only;omega,by simp only;omega⟩ ⟨by simp only;omega,by simp only;omega⟩ (by simp only;decide)) a2 (a3.trans a1) hC.lt rfl;generalize hY:W2.alloc _=Y at h3 |-;have h4:=h3
  go_upto_region 5 with(first
   | (go_at_call 187;(with_reducible refine(IH.out (n / 2) aE aD ((n:Int) / 2) (by omega) h3.cur (hI.only h3.only)).mono ?_);rintro e W4 ⟨B4,d4,o4,S4,rfl,b9,aO,aT,aP,b4⟩;have h4:=h3.call aT aO)
   | (refine wv (L:=1+o4.length) rfl (.tmp 30) (.tmp 37) yo pP h4.has aP.read rfl rfl rfl rfl (by omega) (by omega) ?_;intro B5 d5 W5 S5 aA aQ aU;have h5:=h4.qO aA aQ aU (by simp;omega)))
  have h6:=h5
  go_wp2_with(first
   | (go_at_call 187;(with_reducible refine(IH.out (n / 2) aE aD ((n:Int) / 2) (by omega) h5.cur (hI.only h5.only)).mono ?_);rintro e W6 ⟨B6,d6,o6,S6,rfl,b3,al,ap,am,aw⟩;have h6:=h5.call ap al)
   | (refine wv (L:=1+o4.length+o6.length) rfl (.tmp 39) (.tmp 46) yo pP h6.has am.read rfl rfl rfl rfl (by omega) (by omega) ?_;intro B7 d7 W7 S7 a8 an aq;have h7:=h6.qO a8 an aq (by simp;omega)))
  go_ret;exact .of h7 (by omega) rfl
 ·rw[QT hbin]
  clear hbin;go_upto_region 6 with(fail);go_cut [48] from 49 to 60 (fun v wx=>v=H (decide (0<names.length/\1<n/\x<8))/\W1=wx)
  case first=>
   by_cases a6:0<names.length
   ·have az:(0:Int)<(names.length:Int):=by omega
    by_cases a4:1<n
    ·have ax:(1:Int)<(n:Int):=by omega
     by_cases ae:x<8
     ·have aC:(x:Int)<8:=by omega
      have HD:=fh (show M=decide (0<names.length/\1<n/\x<8) from(QY ⟨a6,a4,ae⟩).symm);clear a6 a4 ae;go_wp2_with(fail);go_meet;exact⟨by rw[<-HD.out],rfl⟩
     ·have aC:¬ ((x:Int)<8):=by omega
      have HD:=fh (show I=decide (0<names.length/\1<n/\x<8) from(QT (fun h=>ae h.2.2)).symm);clear a6 a4 ae;go_wp2_with(fail);go_meet;exact⟨by rw[<-HD.out],rfl⟩
    ·have ax:¬ ((1:Int)<(n:Int)):=by omega
     have HD:=fh (show I=decide (0<names.length/\1<n/\x<8) from(QT (fun h=>a4 h.2.1)).symm);clear a6 a4;go_wp2_with(fail);go_meet;exact⟨by rw[<-HD.out],rfl⟩
   ·have az:¬ ((0:Int)<(names.length:Int)):=by omega
    have HD:=fh (show I=decide (0<names.length/\1<n/\x<8) from(QT (fun h=>a6 h.1)).symm);clear a6;go_wp2_with(fail);go_meet;exact⟨by rw[<-HD.out],rfl⟩
  obtain⟨rfl,rfl⟩:=hcut;by_cases hcall:0<names.length/\1<n/\x<8
  ·rw[QY hcall]
   obtain⟨a6,a4,ae⟩:=hcall;go_upto_region 8 with(go_at_call 36;(with_reducible refine(nO a9 (names.length:Int) (by omega) (by have:=hI.ln;omega)).mono ?_);rintro e W2 ⟨y,rfl,hy,a2,a1⟩);have aa:=hI.only (a3.trans a1);have ah:y<names.length:=by omega
   obtain⟨g2,o2,a,aN,au,aY,aW,aX⟩:=lI aa.a (k:=y) (by rw[<-aa.len];exact ah);obtain⟨g1,o1,nm,aM,aH,aG,a7⟩:=vP aa.n ah;obtain⟨aV,b8⟩:=aa.ar a (Q9 au);obtain⟨av,rfl⟩:=Rl aV;have hq:QP C (Int.tdiv (n:Int) 4)=(n:Int) / 4:=by rw[UC (by omega)];exact iw
   have b2:=Nu a4 hn;have aK:n / 4<n:=by omega
   have aJ:n / 4<=6:=by omega
   have bb:=AI (n / 4);have be:(y:Int)<(ars.length:Int):=by rw[<-aa.len];exact_mod_cast ah
   have ao:=a3.trans a1;subst aN aM;go_region_held3 (fun w'=>QL w' ⟨g2,o2+y,D⟩=Z (J C (av:Int))/\QL w' ⟨g1,o1+y,D⟩=Z (V nm)) ((repeat' apply QQ) <;> ((repeat (first | with_reducible assumption | with_reducible refine zd ?_ _ _ | with_reducible refine zk ?_ _ | with_reducible refine zc ?_ | with_reducible refine zV ?_ _));done)) (fail)
   all_goals go_wp2_with(fail)
   obtain⟨S3,h3⟩:=gM.one (t:=160) pP (ec:=[J C 7,J C (av:Int),V nm]) (x:=⟨7,(av:Int),nm⟩) (fun W=>sK (x:=⟨7,(av:Int),nm⟩) ⟨by simp only;omega,by simp only;omega⟩ ⟨by simp only;omega,by simp only;omega⟩ a7) a2 ao hC.lt rfl;have h3:=h3.fx ((ft.refl _).drew);generalize (W2.alloc _).drew=Y at h3 |-;have HA:=fh au;clear au aH aY aG;go_loopw [14,15] (fun o i wr=>∃(j af:Nat) (ai:X Ri) (aj:Nat) (out:Q gB) (S:Q Nat),o=G ai af aj/\i=J C j/\j<=av/\af<=1+j*nc (n / 4)/\Hid (gM iZ 160 w W wr k ai af aj out S)) (fun _ i _=>av-(Ry i).toNat)
   case atStart=>exact⟨0,1,_,1,_,S3,rfl,rfl,QX _,by omega,fh h3⟩
   clear h3;obtain⟨j,af,ai,aj,out,S,rfl,rfl,hj,b5,HG⟩:=hrel;have h5:=HG.out;have aF:=hI.only h5.only;obtain⟨b7,bf,a',a0,ab,aZ,_,_⟩:=lI aF.a (k:=y) (by rw[<-hI.len];exact ah);injection a0 with a0
   injection a0 with a0 hA3'
   subst a0 hA3'
   obtain rfl:a'=(av:Int):=by
    have:=HA.out;rw[ab] at this;injection this
   clear ab;by_cases hlt:j<av
   ·have b0:(j:Int)<(av:Int):=by omega
    have bc:QP C ((j:Int)+1)=(j:Int)+1:=iw
    have b1:j*nc (n / 4)<=14:=by
     have:j<=1:=by omega
     rcases(show j=0∨j=1 by omega) with rfl | rfl <;> omega
    have h6:=h5
    go_wp2_with(first
     | (go_at_call 187;(with_reducible refine(IH.out (n / 4) aK aJ ((n:Int) / 4) (by omega) h5.cur aF).mono ?_);rintro e W6 ⟨B6,d6,o6,S6,rfl,b3,al,ap,am,aw⟩;have h6:=h5.call ap al)
     | (refine wv (L:=af+o6.length) rfl (.tmp 82) (.tmp 89) yo pP h6.has am.read rfl rfl rfl rfl (by omega) (by omega) ?_;intro B7 d7 W7 S7 a8 an aq;have h7:=h6.qO a8 an aq (by rw[QR,<-h6.len])))
    go_roundw;exact⟨j+1,_,B7,d7,_,S7,rfl,by go_num,by omega,by rw[Ur];omega,fh h7⟩;exact gH
   ·obtain rfl:j=av:=by omega
    have b0:¬ ((j:Int)<(j:Int)):=by omega
    have b1:j*nc (n / 4)<=2*nc (n / 4):=Sk _ (by omega);go_wp2_with(fail);go_ret;exact .of h5 (by omega) rfl
  ·rw[QT hcall]
   clear hcall;go_upto_region 14 with(fail);go_cut [92] from 93 to 100 (fun v wx=>∃ b:Bool,v=H b/\iM w wx k/\fw [k] W wx/\(b=M->0<vars.length))
   case first=>
    by_cases hv:0<vars.length
    ·have aI:(0:Int)<(vars.length:Int):=by omega
     go_wp2_with(go_at_call 103;(with_reducible refine(zgV a9 2 (by decide) (by decide)).mono ?_);rintro e W2 ⟨b,rfl,a2,a1⟩);go_meet;exact⟨b,rfl,a2,a3.trans a1,fun _=>hv⟩
    ·have aI:¬ ((0:Int)<(vars.length:Int)):=by omega
     go_wp2_with(fail);go_meet;exact⟨I,rfl,a9,a3,fun h=>by cases h⟩
   obtain⟨b,rfl,a2,a1,hb⟩:=hcut;clear aR a9 a3;rename_i W2;cases b with
   | true=>
    have hv:=hb rfl;have aI:(0:Int)<(vars.length:Int):=by omega
    go_wp2_with(go_at_call 36;(with_reducible refine(nO a2 (vars.length:Int) (by omega) (by have:=hI.lv;omega)).mono ?_);rintro e W3 ⟨z,rfl,hz,ak,ag⟩;obtain⟨g0,o0,nm,aL,aH,aG,a7⟩:=vP (hI.only (a1.trans ag)).v (k:=z) (by omega);subst aL);obtain⟨S4,h4⟩:=gM.one (t:=160) pP (ec:=[J C 1,J C 0,V nm]) (x:=⟨1,0,nm⟩) (fun W=>sK (x:=⟨1,0,nm⟩) ⟨by simp only;omega,by simp only;omega⟩ ⟨by simp only;omega,by simp only;omega⟩ a7) ak (a1.trans ag) hC.lt rfl;go_ret;exact .of h4 (AI n).1 rfl
   | false=>
    clear hb;have aS:∀ x∈[0,1,2,3,10,999],fD x:=by intro x hx;simp at hx;rcases hx with rfl | rfl | rfl | rfl | rfl | rfl <;> exact⟨by decide,by decide⟩
    go_upto_region 16 with(fail);go_wp2_with(fail);refine(zqS (a2.more gG) (Db [0,1,2,3,10,999] rfl rfl (by simp) aS (by decide)) (fun ad h=>by injection h with h;subst h;have:=a2.lt;simp;omega) (by decide) (by decide)).mono ?_;rintro e W3 ⟨z,rfl,hz,ak,ag⟩;go_wp2_with(fail)
    have b6:fD z:=by
     have:z=0∨z=1∨z=2∨z=3∨z=10∨z=999:=by simpa using hz
     rcases this with rfl | rfl | rfl | rfl | rfl | rfl <;> exact⟨by decide,by decide⟩
    obtain⟨S4,h4⟩:=gM.one (t:=160) pP (ec:=[J C 0,J C z,V { data:=#[] }]) (x:=⟨0,z,{ data:=#[] }⟩) (fun W=>sK (x:=⟨0,z,{ data:=#[] }⟩) ⟨by simp only;omega,by simp only;omega⟩ b6 (by simp only;decide)) ak (a1.trans ((ft.only gG _).trans ag)) hC.lt rfl;go_ret;exact .of h4 (AI n).1 rfl
end Go.Proofs.YthgbglbaemelhaaGreat
