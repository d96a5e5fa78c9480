/-
  PART.
-/
import Derived.Test.YtiihkapmggfjkaaGreatM34LawMakeDebug
import Derived.Test.YtiihkapmggfjkaaGreatM38LawMakeDebug
set_option linter.unusedVariables false
set_option linter.unusedSimpArgs false
set_option maxRecDepth 100000
set_option maxHeartbeats 8000000
namespace Go.Proofs.YtiihkapmggfjkaaGreat
open Value renaming slice->J,int->F,bool->X
open IntKind renaming i64->I
open Option renaming none->V,some->H
open Bool renaming false->U,true->M
open Go renaming World->N,Value->LA,Calls->LR,Addr->Mh,yielded->NA
open World renaming cell?->Lg,frozen?->LD
open Region renaming wanted->MI,ready->MK,noSelect->ND,free->Oq
open Tryz
open Go.RowKit
variable {La N' g i n:Nat}{P:ig}{T:gT}{W w2:N}{hd:Q Int}{line:Int}{m:fW}{pd:Q Nat}{s:fL}{x:fG}
def wD (P:ig)(d:Nat):Prop:=∀(T:gT)(Z:iM)(v7:LA)(pd:Q Nat)(s:fL)(fs0:Q Int)(k b:Nat),iA P.E s->nS P.E Z s->(fs0++[s.f]).length=s.chain.length+1->s.chain.length+d=3->k<P.E.p.length->zG P.E.p k≠0->(b∈pd/\∀ q∈pd,q<=b)->
 EA P T Z v7 pd s (fun g m=>zE P.E (zH P.E d) (fs0++[s.f]) k s g m) (fs0++[s.f]) k d b
theorem zw {E:gd} (hE:ij E)(d:Nat){fs:Q Int}{s:fL}{k:Nat}(hs:iA E s)(hfs:fs.length=s.chain.length+1)(hd:s.chain.length+d=3)(hk:k<E.p.length)(hk0:zG E.p k≠0):pz E (fun g m=>zE E (zH E d) fs k s g m) fs d:=by
 cases d with
 | zero=>
  intro g m _ _ _ a0;have h1:=(qJ a0).1;have h2:=hE.inl.2;omega
 | succ d=>exact xF hE hs (uL hE d) hfs hd hk hk0
theorem Gj (hE:ij P.E):wD P 0:=by
 intro T Z v7 pd s a1 k b hs hO a2 hd hk a3 hb m W L g _ _ _ _ a0;have h1:=(qJ a0).1;have h2:=hE.inl.2;exfalso;omega
theorem ll.fU {P:ig}{T:gT}{Z:iM}{pd:Q Nat}{m:fW}{fs:Q Int}{s:fL}{W W':N}{L S:Q Nat}(h:ll P T Z pd m fs s W L)(ho:fJ S W W')(hS:∀ b∈S,b∉L/\P.Y.heap.size<=b/\b∉T.Sc/\b∉T.Sl):ll P T Z pd m fs s W' L:=by
 obtain⟨Aj,cj,Sj,Lm,h,rfl⟩:=h;refine⟨Aj,cj,Sj,Lm,⟨h.kj,h.st.fU ho (fun b hb=>⟨fun hm=>(hS b hb).1 (by simp[hm]),(hS b hb).2.1⟩),h.sc.fU ho (fun hm=>(hS _ hm).1 (by simp)) (fun b hb hm=>(hS b hm).2.2.1 hb) (fun b hb hm=>(hS b hm).2.2.2 hb),h.lv.fU ho (fun b hb hm=>(hS b hm).1 (by simp[hb])),h.dv,h.dg⟩,rfl⟩
theorem ll.begun {P:ig}{T:gT}{Z:iM}{pd:Q Nat}{m:fW}{fs:Q Int}{s:fL}{W:N}{L:Q Nat}(h:ll P T Z pd m fs s W L):ll P T Z (m.items.length::pd) m.begun fs s W L:=by
 obtain⟨Aj,cj,Sj,Lm,h,rfl⟩:=h;exact⟨Aj,cj,Sj,Lm,⟨h.kj.begin,by rw[CM];exact h.st,h.sc,h.lv,h.dv,h.dg⟩,rfl⟩
theorem ll.lt {P:ig}{T:gT}{Z:iM}{pd:Q Nat}{m:fW}{fs:Q Int}{s:fL}{W:N}{L:Q Nat}(h:ll P T Z pd m fs s W L):∀ b∈L,b<W.heap.size:=by
 obtain⟨Aj,cj,Sj,Lm,h,rfl⟩:=h;intro b hb;rcases LU.1 hb with rfl | hb
 ·exact(blt h.sc.box)
 ·exact(LG.1 hb).elim (h.st.iX.2.2.1 b) (h.lv.lt b)
theorem ll.kj {P:ig}{T:gT}{Z:iM}{pd:Q Nat}{m:fW}{fs:Q Int}{s:fL}{W:N}{L:Q Nat}(h:ll P T Z pd m fs s W L):ia pd m:=by
 obtain⟨Aj,cj,Sj,Lm,h,rfl⟩:=h;exact h.kj
theorem ll.yg {Z:iM} {fs:Q Int} {L:Q Nat} (h:ll P T Z pd m fs s W L):fF P.Y W:=by
 obtain⟨Aj,cj,Sj,Lm,h,rfl⟩:=h;exact h.st.iX.2.2.2.2
structure wW where
 gz:Nat
 go:Nat
 gf:Nat
 Ao:K Mh
 co:Nat
 So:Q Nat
 out:Q Int
def kx (W:N)(g La:Nat)(f:Int->K Int):Prop:=∃ n,n<=La/\gY W g n f
theorem kx.fU {W W':N}{g La:Nat}{f:Int->K Int}{S:Q Nat}(h:kx W g La f)(ho:fJ S W W')(hb:g∉S):kx W' g La f:=by
 obtain⟨n,hn,h⟩:=h;exact⟨n,hn,h.fU ho hb⟩
theorem kx.more {f:Int->K Int} (h:kx W g La f)(hN:La<=N'):kx W g N' f:=by
 obtain⟨n,hn,h⟩:=h;exact⟨n,LO hn hN,h⟩
theorem kx.lt {W:N}{g La:Nat}{f:Int->K Int}(h:kx W g La f):g<W.heap.size:=by
 obtain⟨n,hn,h⟩:=h;exact h.lt
structure iF (P:ig)(T:gT)(Z:iM)(fs:Q Int)(s:fL)(W:N)(L0:Q Nat)(Lc:wW)(B:Q (Nat × Obj))(pd:Q Nat)(m:fW)(lv:Q Int)(fz fo ff:Int->K Int)(La:Nat)(L':Q Nat)(wr:N):Prop where
 st:ll P T Z pd m fs (s.wl lv) wr L'
 on:fJ L0 W wr
 nw:∀ b∈L',b∈L0∨W.heap.size<=b
 mz:kx wr Lc.gz La fz
 mo:kx wr Lc.go La fo
 mf:kx wr Lc.gf La ff
 ow:Has (zF.sl 3) wr [J Lc.Ao Lc.out.length Lc.co] Lc.out Lc.So
 dz:∀ b,(b=Lc.gz∨b=Lc.go∨b=Lc.gf)->b∉L'/\b∉Lc.So/\W.heap.size<=b
 dd:Lc.gz≠Lc.go/\Lc.gz≠Lc.gf/\Lc.go≠Lc.gf
 dw:∀ b∈Lc.So,b∉L'
 kb:∀ p∈B,wr.heap[p.1]?=H p.2/\p.1∉L'/\p.1≠Lc.gz/\p.1≠Lc.go/\p.1≠Lc.gf
 tl:(∀ b∈T.Sc,b<W.heap.size)/\(∀ b∈T.Sl,b<W.heap.size)/\P.Y.heap.size<=W.heap.size
section
variable {P:ig} {T:gT} {Z:iM} {fs:Q Int} {s:fL} {W:N} {L0:Q Nat} {Lc:wW} {B:Q (Nat × Obj)} {pd:Q Nat} {m:fW} {lv:Q Int} {fz fo ff:Int->K Int} {La:Nat} {L':Q Nat} {wr:N}
theorem iF.next {pd':Q Nat} {m':fW} {lv':Q Int} (h:iF P T Z fs s W L0 Lc B pd m lv fz fo ff La L' wr)(k:ik P T Z pd' m' fs (s.wl lv') wr L' w2):∃ L2,iF P T Z fs s W L0 Lc B pd' m' lv' fz fo ff La L2 w2:=by
 obtain⟨L2,h1,h2,h3⟩:=k;have a0:=h.on.size;have hz:=h.mz.lt;have ho:=h.mo.lt;have hf:=h.mf.lt;refine⟨L2,h1,h.on.then h2 h.nw,fun b hb=>?_,h.mz.fU h2 (h.dz _ (.inl rfl)).1,h.mo.fU h2 (h.dz _ (.inr (.inl rfl))).1,h.mf.fU h2 (h.dz _ (.inr (.inr rfl))).1,h.ow.fU h2 h.dw,fun b hb=>⟨fun hm=>?_,(h.dz b hb).2⟩,h.dd,qj h.dw h.ow.lt h3,fun p hp=>?_,h.tl⟩
 ·rcases h3 b hb with hb | hb
  ·exact h.nw b hb
  ·exact .inr (by omega)
 ·rcases h3 b hm with h4 | h4
  ·exact(h.dz b hb).1 h4
  ·rcases hb with rfl | rfl | rfl <;> omega
 ·obtain⟨k1,k2,k3⟩:=h.kb p hp
  have hl:=(blt k1)
  exact⟨(h2.block p.1 hl k2).trans k1,fun hm=>(h3 p.1 hm).elim k2 (fun h=>by omega),k3⟩
theorem iF.fO {w2:N}(h:iF P T Z fs s W L0 Lc B pd m lv fz fo ff La L' wr)(hg:fF wr w2):iF P T Z fs s W L0 Lc B pd m lv fz fo ff La L' w2:=
 ⟨h.st.fO hg,h.on.trans (hg.only _),h.nw,h.mz.fU (hg.only []) (by simp),h.mo.fU (hg.only []) (by simp),h.mf.fU (hg.only []) (by simp),h.ow.fO hg,h.dz,h.dd,h.dw,fun p hp=>⟨zj (h.kb p hp).1 hg,(h.kb p hp).2⟩,h.tl⟩
theorem iF.s6 {o:Obj} (h:iF P T Z fs s W L0 Lc B pd m lv fz fo ff La L' wr)(hg:fF wr w2)(hb:w2.heap[g]?=H o)(hl:wr.heap.size<=g):iF P T Z fs s W L0 Lc ((g,o)::B) pd m lv fz fo ff La L' w2:=by
 have h1:=h.fO hg;have hz:=h.mz.lt;have ho:=h.mo.lt;have hf:=h.mf.lt;refine⟨h1.st,h1.on,h1.nw,h1.mz,h1.mo,h1.mf,h1.ow,h1.dz,h1.dd,h1.dw,fun p hp=>?_,h1.tl⟩;rcases LU.1 hp with rfl | hp
 ·exact⟨hb,fun hm=>by have:=h.st.lt _ hm;simp only at this;omega,by simp only;omega,by simp only;omega,by simp only;omega⟩
 ·exact h1.kb p hp
theorem iF.drop {B':Q (Nat × Obj)} (h:iF P T Z fs s W L0 Lc B pd m lv fz fo ff La L' wr)(hs:∀ p∈B',p∈B):iF P T Z fs s W L0 Lc B' pd m lv fz fo ff La L' wr:=
 ⟨h.st,h.on,h.nw,h.mz,h.mo,h.mf,h.ow,h.dz,h.dd,h.dw,fun p hp=>h.kb p (hs p hp),h.tl⟩
theorem iF.put {fz' fo' ff':Int->K Int} (h:iF P T Z fs s W L0 Lc B pd m lv fz fo ff La L' wr)(hg:g=Lc.gz∨g=Lc.go∨g=Lc.gf)(ho:fJ [g] wr w2)(mz:kx w2 Lc.gz N' fz')(mo:kx w2 Lc.go N' fo')(mf:kx w2 Lc.gf N' ff'):iF P T Z fs s W L0 Lc B pd m lv fz' fo' ff' N' L' w2:=by
 obtain⟨d1,d2,d3⟩:=h.dz g hg;refine⟨h.st.fU ho (fun b hb=>?_),h.on.then ho (fun b hb=>?_),h.nw,mz,mo,mf,h.ow.fU ho (fun b hb hm=>?_),h.dz,h.dd,h.dw,fun p hp=>?_,h.tl⟩
 ·simp only[Lr] at hb
  subst hb;exact⟨d1,LO h.tl.2.2 d3,fun hm=>by have:=h.tl.1 _ hm;omega,fun hm=>by have:=h.tl.2.1 _ hm;omega⟩
 ·simp only[Lr] at hb
  subst hb;exact .inr d3
 ·simp only[Lr] at hm
  subst hm;exact d2 hb
 ·obtain⟨k1,k2,k3,k4,k5⟩:=h.kb p hp
  refine⟨(ho.block p.1 (blt k1) (fun hm=>?_)).trans k1,k2,k3,k4,k5⟩;simp only[Lr] at hm;rcases hg with rfl | rfl | rfl
  ·exact k3 hm
  ·exact k4 hm
  ·exact k5 hm
theorem iF.ur {fz':Int->K Int} (h:iF P T Z fs s W L0 Lc B pd m lv fz fo ff La L' wr)(hm:gY w2 Lc.gz n fz')(ho:fJ [Lc.gz] wr w2)(hn:n<=N')(hN:La<=N'):iF P T Z fs s W L0 Lc B pd m lv fz' fo ff N' L' w2:=
 h.put (.inl rfl) ho ⟨n,hn,hm⟩ ((h.mo.fU ho (by simp only[Lr];exact h.dd.1.symm)).more hN) ((h.mf.fU ho (by simp only[Lr];exact h.dd.2.1.symm)).more hN)
theorem iF.xc {fo':Int->K Int} (h:iF P T Z fs s W L0 Lc B pd m lv fz fo ff La L' wr)(hm:gY w2 Lc.go n fo')(ho:fJ [Lc.go] wr w2)(hn:n<=N')(hN:La<=N'):iF P T Z fs s W L0 Lc B pd m lv fz fo' ff N' L' w2:=
 h.put (.inr (.inl rfl)) ho ((h.mz.fU ho (by simp only[Lr];exact h.dd.1)).more hN) ⟨n,hn,hm⟩ ((h.mf.fU ho (by simp only[Lr];exact h.dd.2.2.symm)).more hN)
theorem iF.jg {ff':Int->K Int} (h:iF P T Z fs s W L0 Lc B pd m lv fz fo ff La L' wr)(hm:gY w2 Lc.gf n ff')(ho:fJ [Lc.gf] wr w2)(hn:n<=N')(hN:La<=N'):iF P T Z fs s W L0 Lc B pd m lv fz fo ff' N' L' w2:=
 h.put (.inr (.inr rfl)) ho ((h.mz.fU ho (by simp only[Lr];exact h.dd.2.1)).more hN) ((h.mo.fU ho (by simp only[Lr];exact h.dd.2.2)).more hN) ⟨n,hn,hm⟩
theorem iF.more {N':Nat}(h:iF P T Z fs s W L0 Lc B pd m lv fz fo ff La L' wr)(hN:La<=N'):iF P T Z fs s W L0 Lc B pd m lv fz fo ff N' L' wr:=
 ⟨h.st,h.on,h.nw,h.mz.more hN,h.mo.more hN,h.mf.more hN,h.ow,h.dz,h.dd,h.dw,h.kb,h.tl⟩
theorem iF.own (h:iF P T Z fs s W L0 Lc B pd m lv fz fo ff La L' wr){ga oa k:Nat}{v:Int}(hA:Lc.Ao=H ⟨ga,oa,V⟩)(hv:Lc.out[k]?=H v):Lg wr ⟨ga,oa+k,V⟩=H (F I v):=by
 obtain⟨g',o',v',a0,a1,hc,_⟩:=lR h.ow.read (Lh.1 hv).1;rw[hA] at a0;injection a0 with a0
 injection a0 with h1 h2
 subst h1;subst h2;rw[hv] at a1;injection a1 with a1
 rw[a1];exact hc
theorem iF.begun (h:iF P T Z fs s W L0 Lc B pd m lv fz fo ff La L' wr):iF P T Z fs s W L0 Lc B (m.items.length::pd) m.begun lv fz fo ff La L' wr:=
 ⟨h.st.begun,h.on,h.nw,h.mz,h.mo,h.mf,h.ow,h.dz,h.dd,h.dw,h.kb,h.tl⟩
theorem iF.dep (h:iF P T Z fs s W L0 Lc B pd m lv fz fo ff La L' wr)(d:Int):∃ L2,iF P T Z fs s W L0 Lc B pd (m.fZ d) lv fz fo ff La L2 (wr.setCell ⟨P.g,9,V⟩ (F I d)):=by
 obtain⟨Aj,cj,Lm,hE,a1,a0⟩:=h.st.open;exact h.next (a0 (hE.dep d))
theorem iF.mark {b:Nat}(h:iF P T Z fs s W L0 Lc B (b::pd) m lv fz fo ff La L' wr)(hn:b∉pd)(hb:b<m.items.length)(hs:m.start=U) :
  ∃ gi ci,Lg wr ⟨P.g,8,V⟩=H (J (H ⟨gi,0,V⟩) m.items.length ci)/\gi<wr.heap.size/\(∀ k,LD wr ⟨gi,k,V⟩=U)/\(∃ v0,Lg wr ⟨gi,b*7+3,V⟩=H v0)/\∃ L2,iF P T Z fs s W L0 Lc B pd m lv fz fo ff La L2 (wr.setCell ⟨gi,b*7+3,V⟩ (X M)):=by
 obtain⟨Aj,cj,Lm,hE,a2,a0⟩:=h.st.open;obtain⟨gi,ci,z8,a1,hf,hv,hk⟩:=hE.mark hn hb hs;exact⟨gi,ci,z8,a1,hf,hv,h.next (a0 hk)⟩
theorem iF.arg {j:Nat}(h:iF P T Z fs s W L0 Lc B pd m lv fz fo ff La L' wr)(hj:j<m.items.length) :
  ∃ gi ci,Lg wr ⟨P.g,8,V⟩=H (J (H ⟨gi,0,V⟩) m.items.length ci)/\gi<wr.heap.size/\(∀ k,LD wr ⟨gi,k,V⟩=U)/\(∃ v0,Lg wr ⟨gi,j*7+1,V⟩=H v0)/\∀ v,fV v->∃ L2,iF P T Z fs s W L0 Lc B pd (m.gU (zL m.items j v)) lv fz fo ff La L2 (wr.setCell ⟨gi,j*7+1,V⟩ (F I v)):=by
 obtain⟨Aj,cj,Lm,hE,a2,a0⟩:=h.st.open;obtain⟨gi,ci,z8,a1,hf,hv,hk⟩:=hE.arg hj;exact⟨gi,ci,z8,a1,hf,hv,fun v hv=>h.next (a0 (hk v hv))⟩
theorem iF.cells (h:iF P T Z fs s W L0 Lc B pd m lv fz fo ff La L' wr):∃ Ai ci,
  Lg wr ⟨P.g,0,V⟩=H (J P.A P.E.p.length P.c)/\Lg wr ⟨P.g,8,V⟩=H (J Ai m.items.length ci)/\Lg wr ⟨P.g,9,V⟩=H (F I m.depth)/\(∀ j,LD wr ⟨P.g,j,V⟩=U)/\P.g<wr.heap.size/\
  Lg wr ⟨Z.gs,0,V⟩=H (F I s.f)/\Lg wr ⟨Z.gs,1,V⟩=H (F I Z.e)/\Lg wr ⟨Z.gs,2,V⟩=H (J T.Al s.locals.length T.cl)/\Lg wr ⟨Z.gs,6,V⟩=H (F I Z.base)/\(iH.sl 9).R wr wr.heap.size [J T.Al s.locals.length T.cl] s.locals/\fF P.Y wr:=by
 obtain⟨Aj,cj,Sj,Lm,hK,_⟩:=h.st;obtain⟨Ai,ci,Af,cf,z0,z2,z5,z6,z7,z8,z9,a0,zf,zl⟩:=hK.st.cells;obtain⟨q0,q1,q2,q3,q4,q5,q6,q7,qf,ql⟩:=jA hK.sc.box;rw[lN] at z8;exact⟨Ai,ci,z0,z8,z9,zf,zl,q0,q1,q2,q6,hK.sc.locals.read,hK.st.iX.2.2.2.2⟩
theorem AA {code arg change:Int} (h:iF P T Z fs s W L0 Lc B pd m lv fz fo ff La L' wr)(hcl:s.chain.length<=1000)(hln:m.items.length<=100000)(b0:fV code)(b1:fV arg)(b2:fV line)(b3:fV m.depth)(b4:fV (m.depth+change)) :
  LR prog 248 #[.pointer (H ⟨P.g,0,V⟩),.pointer (H ⟨Z.gs,0,V⟩),F I line,F I code,F I arg,F I change] wr fun r w'=>r=.returned (.tuple #[])/\∃ L2,iF P T Z fs s W L0 Lc B pd ((zv P.E m code arg line s.chain).fZ (m.depth+change)) lv fz fo ff La L2 w':=by
 obtain⟨Aj,cj,Lm,hE,a1,a0⟩:=h.st.open;obtain⟨_,_,_,_,_,q5,_,_,_,_⟩:=jA hE.2.2.box;exact(zd4 hE.2.1 rfl q5 hE.2.2.chain.read (show (s.wl lv).chain.length<=1000 from hcl) (by rw[lN];exact hln) b0 b1 b2 (show fV (iv pd m).depth from b3) (show fV ((iv pd m).depth+change) from b4)).mono fun r w' hh=>⟨hh.1,h.next (a0 (hE.add (fF.refl _) hh.2 rfl))⟩
theorem Kb {i:Int} (h:iF P T Z fs s W L0 Lc B pd m lv fz fo ff La L' wr)(hO:nS P.E Z s)(hcl:s.chain.length<=1000)(hln:m.items.length<=100000)(hi:0<=i/\i<=100)(hd : -1000000<=m.depth/\m.depth<=1000000)(hf : -1000<=s.first/\s.first<=1000)(ha:0<=P.E.args/\P.E.args<=100)(hl:fV line) :
  LR prog 262 #[.pointer (H ⟨P.g,0,V⟩),.pointer (H ⟨Z.gs,0,V⟩),F I line,F I i,X M] wr fun r w'=>r=.returned (.tuple #[])/\∃ L2,iF P T Z fs s W L0 Lc B pd (jC P.E m s i line s.chain) lv fz fo ff La L2 w':=by
 obtain⟨Aj,cj,Lm,hE,a1,a0⟩:=h.st.open;exact(DE (st:=M) hE.2.1 rfl hE.2.2 (show nS P.E Z (s.wl lv) from hO) hcl (by rw[lN];exact hln) hi hd hf ha hl).mono fun r w' hh=>⟨hh.1,h.next (a0 (hE.acc (fF.refl _) hh.2))⟩
theorem JH {k:Int} {last:Bool} {ex:Q (Int × Int)} (h:iF P T Z fs s W L0 Lc B pd m lv fz fo ff La L' wr)(hE:ij P.E)(hO:nS P.E Z s)(hcl:s.chain.length<=1000)(hln:m.items.length<=100000)(hlv:lv.length<=100000)(hdp : -1000000<=m.depth/\m.depth<=1000000)(hk:fV k) :
  LR prog 263 #[.pointer (H ⟨P.g,0,V⟩),.pointer (H ⟨Z.gs,0,V⟩),F I k,X last] wr fun r w'=>r=.returned (.tuple #[])/\∃ dep L2,iF P T Z fs s W L0 Lc B pd ((zR P.E s k last ⟨m,lv,hd,ex⟩).m.fZ dep) (zR P.E s k last ⟨m,lv,hd,ex⟩).leaves fz fo ff La L2 w':=
 (zph (hd:=hd) (ex:=ex) h.st hE hO hcl hln hlv hdp hk).mono fun r w' hh=>⟨hh.1,by obtain⟨dep,hk⟩:=hh.2;exact⟨dep,h.next hk⟩⟩
theorem Kf {f:Nat} {ex:Q (Int × Int)} (h:iF P T Z fs s W L0 Lc B pd m lv fz fo ff La L' wr)(hR:kX P)(hO:nS P.E Z s)(hx:P.E.p[f]?=H x)(h0:x.Kind=0)(hcl:s.chain.length<=1000)(hln:m.items.length<=90000)(hlv:lv.length<=100000)(hdp : -100000<=m.depth/\m.depth<=100000)(hi:i<=1000) :
  LR prog 264 #[.pointer (H ⟨P.g,0,V⟩),.pointer (H ⟨Z.gs,0,V⟩),F I i,F I f,.map (H Lc.gz),.map (H Lc.go),.map (H Lc.gf)] wr fun r w'=>r=.returned (.tuple #[])/\∃ dep L2,iF P T Z fs s W L0 Lc B pd ((zR P.E s i M ⟨zZ P.E m 0 i s.chain,lv,hd,ex⟩).m.fZ dep) (zR P.E s i M ⟨zZ P.E m 0 i s.chain,lv,hd,ex⟩).leaves fz fo ff La L2 w':=
 (zsd (hd:=hd) (ex:=ex) h.st hR hO hx h0 hcl hln hlv hdp hi).mono fun r w' hh=>⟨hh.1,by obtain⟨dep,hk⟩:=hh.2;exact⟨dep,h.next hk⟩⟩
theorem Jh {a jn:Nat} {hv:Int} (h:iF P T Z fs s W L0 Lc B pd m lv fz fo ff La L' wr)(hR:kX P)(hx:P.E.p[a]?=H x)(hk:x.Kind=3∨x.Kind=5)(hvs:(fz a=H (jn:Int)/\fo a=V)∨(fz a=V/\fo a=H (jn:Int)))(hjn:jn<m.items.length)(hff:x.Kind=5->ff a=H hv)(hvI:fV hv)(hcl:s.chain.length<=1000)(hln:m.items.length<=90000)(hdp : -100000<=m.depth/\m.depth<=100000)(hi:i<=1000) :
  LR prog 264 #[.pointer (H ⟨P.g,0,V⟩),.pointer (H ⟨Z.gs,0,V⟩),F I i,F I a,.map (H Lc.gz),.map (H Lc.go),.map (H Lc.gf)] wr fun r w'=>r=.returned (.tuple #[])/\∃ L2,iF P T Z fs s W L0 Lc B pd (((if x.Kind=5 then zv P.E m 10 hv i s.chain else m).gU (zL (if x.Kind=5 then zv P.E m 10 hv i s.chain else m).items jn (if x.Kind=5 then zv P.E m 10 hv i s.chain else m).items.length))) lv fz fo ff La L2 w':=by
 obtain⟨nz,_,hz⟩:=h.mz;obtain⟨no,_,ho⟩:=h.mo;obtain⟨nf,_,hf⟩:=h.mf;exact(zsc h.st hR hx hk hz ho hf (h.dz _ (.inl rfl)).1 (h.dz _ (.inr (.inl rfl))).1 hvs hjn hff hvI hcl hln hdp hi).mono fun r w' hh=>⟨hh.1,h.next hh.2⟩
end
theorem Kj {Z:iM} {L0:Q Nat} {Lc:wW} {B:Q (Nat × Obj)} {lv:Q Int} {fz fo ff:Int->K Int} {L':Q Nat} {wr:N} {fs0:Q Int} {d k b:Nat} {xl:fG} {Ax:K Mh} {cx:Nat} {e:Ex} (hR:kX P)(hs:iA P.E s)(hO:nS P.E Z s)(hrep:wD P d)(hfs:(fs0++[s.f]).length=s.chain.length+1)(hd3:s.chain.length+d=3)(hx:P.E.p[k]?=H xl)(hk0:zG P.E.p k≠0)(hX:(iz.sl 159).R P.Y P.Y.heap.size [J Ax xl.Expr.length cx] xl.Expr)(hb:b∈pd/\∀ q∈pd,q<=b)
  (h:iF P T Z (fs0++[s.f]) s W L0 Lc B pd m lv fz fo ff La L' wr) (hw:e.wf) (hxe:xl.Expr=e.flat) (hnm:zB P.E.p s.locals e.flat=M) (hm:iq P.E m) (hcnt:max m.items.length (200+iE d)+e.size<=8000) (hd0:0<=m.depth) (hd1:m.depth+e.size<=iP d+1) :
  LR prog 261 #[.pointer (H ⟨P.g,0,V⟩),.pointer (H ⟨Z.gs,0,V⟩),F I k,J Ax xl.Expr.length cx,F I 0,F I b] wr fun r w'=>r=.returned (.tuple #[])/\∃ L2,iF P T Z (fs0++[s.f]) s W L0 Lc B pd (nT P.E (fun g m=>zE P.E (zH P.E d) (fs0++[s.f]) k s g m) (fs0++[s.f]) s k xl.Expr m) lv fz fo ff La L2 w':=by
 have a1:iA P.E (s.wl lv):=⟨hs.od,hs.locals,hs.first,hs.chain,hs.outer⟩
 have a2:=(Lh.1 hx).1;obtain⟨Aj,cj,Lm,hE,a5,a0⟩:=h.st.open;have a4:=hrep T Z (J Aj (s.wl lv).leaves.length cj) pd (s.wl lv) fs0 k b a1 (show nS P.E Z (s.wl lv) from hO) hfs hd3 a2 hk0 hb;have a3:=zw hR.env d (fs:=fs0++[s.f]) (k:=k) a1 hfs hd3 a2 hk0;have hc:=zsZ hR a1 (show nS P.E Z (s.wl lv) from hO) a4 a3 hfs hx hX e.size e (Lz _) (a:=0) (rs:=[]) hE hw (by rw[Mt,MC,hxe]) hnm hm hcnt hd0 hd1;refine hc.mono fun r w' hh=>⟨hh.1,?_⟩;obtain⟨L2,h2⟩:=h.next (a0 hh.2);refine⟨L2,?_⟩;rw[hxe,uS hw,<-Ex.jM P.E _ _ s lv];exact h2
end Go.Proofs.YtiihkapmggfjkaaGreat
