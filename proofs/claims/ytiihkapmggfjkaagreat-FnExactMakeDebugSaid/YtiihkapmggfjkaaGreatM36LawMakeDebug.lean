/-
  PART.
-/
import Derived.Test.YtiihkapmggfjkaaGreatM32LawMakeDebug
set_option linter.unusedVariables false
set_option linter.unusedSimpArgs false
set_option maxRecDepth 100000
set_option maxHeartbeats 8000000
namespace Go.Proofs.YtiihkapmggfjkaaGreat
open Value renaming slice->J,int->F,bool->X
open IntKind renaming i64->I,wrap->Ll
open Option renaming none->V,some->H
open Obj renaming cells->C
open Bool renaming false->U,true->M
open Go renaming World->N,results->Ly,Calls->LR,Addr->Mh,Value->LA,yielded->NA
open World renaming cell?->Lg
open _root_.Int renaming toNat_natCast->Lw
open List renaming length_cons->LJ,length_nil->Mk
open Region renaming wanted->MI,ready->MK,Mode->Nz,noSelect->ND,free->Oq
open Tryz
open Go.RowKit
variable {Aj:K Mh}{L Lm Sj pd:Q Nat}{P:ig}{T:gT}{W W' W1 W2:N}{a b cj e i k:Nat}{arg code d line:Int}{chain fs lv:Q Int}{last:Bool}{m:fW}{s:fL}{x:fG}
structure jF (P:ig)(T:gT)(Z:iM)(pd:Q Nat)(m:fW)(fs:Q Int)(s:fL)(W:N)(Aj:K Mh)(cj:Nat)(Sj Lm:Q Nat):Prop where
 kj:ia pd m
 st:jI P (iv pd m) fs W Lm
 sc:iU T Z s (J Aj s.leaves.length cj) W Lm
 lv:Has (zF.sl 3) W [J Aj s.leaves.length cj] s.leaves Sj
 dv:∀ b∈Sj,b∉Lm/\b≠Z.gs/\b∉T.Sc/\b∉T.Sl/\P.Y.heap.size<=b
 dg:Z.gs∉T.Sc/\Z.gs∉T.Sl/\P.Y.heap.size<=Z.gs
def ll (P:ig)(T:gT)(Z:iM)(pd:Q Nat)(m:fW)(fs:Q Int)(s:fL)(W:N)(L:Q Nat):Prop:=∃ Aj cj Sj Lm,jF P T Z pd m fs s W Aj cj Sj Lm/\L=Z.gs::(Lm++Sj)
def ik (P:ig)(T:gT)(Z:iM)(pd:Q Nat)(m':fW)(fs:Q Int)(s':fL)(W:N)(L:Q Nat)(W':N):Prop:=∃ L',ll P T Z pd m' fs s' W' L'/\fJ L W W'/\∀ b∈L',b∈L∨W.heap.size<=b
theorem jF.fO {P:ig}{T:gT}{Z:iM}{pd:Q Nat}{m:fW}{fs:Q Int}{s:fL}{W W':N}{Aj:K Mh}{cj:Nat}{Sj Lm:Q Nat}(h:jF P T Z pd m fs s W Aj cj Sj Lm)(hg:fF W W'):jF P T Z pd m fs s W' Aj cj Sj Lm:=
 ⟨h.kj,h.st.fO hg,h.sc.fO hg,h.lv.fO hg,h.dv,h.dg⟩
theorem ll.fO {P:ig}{T:gT}{Z:iM}{pd:Q Nat}{m:fW}{fs:Q Int}{s:fL}{W W':N}{L:Q Nat}(h:ll P T Z pd m fs s W L)(hg:fF W W'):ll P T Z pd m fs s W' L:=by
 obtain⟨Aj,cj,Sj,Lm,h,rfl⟩:=h;exact⟨Aj,cj,Sj,Lm,h.fO hg,rfl⟩
theorem ik.fO {P:ig}{T:gT}{Z:iM}{pd:Q Nat}{m:fW}{fs:Q Int}{s:fL}{W W' W2:N}{L:Q Nat}(h:ik P T Z pd m fs s W L W')(hg:fF W' W2):ik P T Z pd m fs s W L W2:=by
 obtain⟨L',h1,h2,h3⟩:=h;exact⟨L',h1.fO hg,h2.trans (hg.only L),h3⟩
theorem ik.from {Z:iM} (hg:fF W W1)(h:ik P T Z pd m fs s W1 L W2):ik P T Z pd m fs s W L W2:=by
 exact mU
theorem ik.refl {P:ig}{T:gT}{Z:iM}{pd:Q Nat}{m:fW}{fs:Q Int}{s:fL}{W:N}{L:Q Nat}(h:ll P T Z pd m fs s W L):ik P T Z pd m fs s W L W:=⟨L,h,fJ.refl _ _,fun _ hb=>.inl hb⟩
theorem ik.trans {Z:iM} {m2:fW} {f2:Q Int} {s2:fL} {L1:Q Nat} (ho:fJ L W W1)(hl:∀ b∈L1,b∈L∨W.heap.size<=b)(k:ik P T Z pd m2 f2 s2 W1 L1 W2):ik P T Z pd m2 f2 s2 W L W2:=by
 exact mS
theorem jF.next {P:ig}{T:gT}{Z:iM}{pd pd':Q Nat}{m m':fW}{fs fs':Q Int}{s:fL}{W W':N}{Aj:K Mh}{cj:Nat}{Sj Lm:Q Nat}(h:jF P T Z pd m fs s W Aj cj Sj Lm)(hp:ia pd' m')(k:gR P (iv pd' m') fs' W Lm W'):ik P T Z pd' m' fs' s W (Z.gs::(Lm++Sj)) W':=by
 obtain⟨L',h1,h2,h3⟩:=k;have hg:=(blt h.sc.box)
 refine⟨Z.gs::(L'++Sj),⟨Aj,cj,Sj,L',⟨hp,h1,h.sc.next h2 h3,h.lv.fU h2 (fun b hb=>(h.dv b hb).1),fun b hb=>⟨fun hm=>?_,(h.dv b hb).2⟩,h.dg⟩,rfl⟩,h2.mono (fun b hb=>by simp[hb]),fun b hb=>?_⟩
 ·rcases h3 b hm with h4 | h4
  ·exact(h.dv b hb).1 h4
  ·have:=h.lv.lt b hb;omega
 ·rcases LU.1 hb with rfl | hb
  ·exact .inl (by simp)
  ·rcases LG.1 hb with hb | hb
   ·exact(h3 b hb).imp (fun h=>by simp[h]) id
   ·exact .inl (by simp[hb])
theorem jF.leaf {Z:iM} {A':K Mh} {c':Nat} {S':Q Nat} (h:jF P T Z pd m fs s W Aj cj Sj Lm)(hon:fJ Sj W W')(hH:Has (zF.sl 3) W' [J A' lv.length c'] lv S')(hS:∀ b∈S',b∈Sj∨W.heap.size<=b) :
  ik P T Z pd m fs (s.wl lv) W (Z.gs::(Lm++Sj)) (W'.setCell ⟨Z.gs,7,V⟩ (J A' lv.length c')):=by
 have hg:=(blt h.sc.box)
 have a4:=(hon.block Z.gs hg (fun hm=>(h.dv _ hm).2.1 rfl)).trans h.sc.box;have a0:fJ [Z.gs] W' (W'.setCell ⟨Z.gs,7,V⟩ (J A' lv.length c')):=(fJ.refl _ _).setCell (p:=⟨Z.gs,7,V⟩) (by simp) _;have a5:=(h.sc.chain.fU hon (fun b hb hm=>(h.dv b hm).2.2.1 hb)).fU a0 (fun b hb hm=>by simp at hm;exact h.dg.1 (hm ▸ hb));have a7:=(h.sc.locals.fU hon (fun b hb hm=>(h.dv b hm).2.2.2.1 hb)).fU a0 (fun b hb hm=>by simp at hm;exact h.dg.2.1 (hm ▸ hb));have a8:=(h.st.fU hon (fun b hb=>⟨(h.dv b hb).1,(h.dv b hb).2.2.2.2⟩)).fU a0 (fun b hb=>by simp at hb;subst hb;exact⟨h.sc.dg,h.dg.2.2⟩)
 have a6:Z.gs∉S':=fun hm=>by
  rcases hS _ hm with h1 | h1
  ·exact(h.dv _ h1).2.1 rfl
  ·omega
 have a9:=h.st.iX.2.2.2.2.size;have a1:=h.sc.chain.lt;have a2:=h.sc.locals.lt;have a3:=h.st.iX.2.2.1;refine⟨Z.gs::(Lm++S'),⟨A',c',S',Lm,⟨h.kj,a8,⟨jo (i:=7) (v:=J A' lv.length c') a4 rfl,a5,a7,h.sc.dg,h.sc.dc,h.sc.dl⟩,hH.fU a0 (fun b hb hm=>by simp at hm;exact a6 (hm ▸ hb)),fun b hb=>?_,h.dg⟩,rfl⟩,(hon.mono (fun b hb=>by simp[hb])).trans (a0.mono (fun b hb=>by simp at hb;simp[hb])),fun b hb=>?_⟩
 ·rcases hS b hb with h1 | h1
  ·exact h.dv b h1
  ·exact⟨fun hm=>by have:=a3 b hm;omega,fun hm=>by omega,fun hm=>by have:=a1 b hm;omega,fun hm=>by have:=a2 b hm;omega,by omega⟩
 ·rcases LU.1 hb with rfl | hb
  ·exact .inl (by simp)
  ·rcases LG.1 hb with hb | hb
   ·exact .inl (by simp[hb])
   ·exact(hS b hb).imp (fun h=>by simp[h]) id
theorem jF.add {Z:iM} (h:jF P T Z pd m fs s W Aj cj Sj Lm)(k:gR P ((zv P.E (iv pd m) code arg line chain).fZ d) fs W Lm W'):ik P T Z pd ((zv P.E m code arg line chain).fZ d) fs s W (Z.gs::(Lm++Sj)) W':=by
 rw[wj h.kj] at k;exact h.next ((h.kj.emit code arg line chain).fZ d) k
theorem jF.wX {Z:iM} (h:jF P T Z pd m fs s W Aj cj Sj Lm)(hg:fF W W1)(k:gR P ((zv P.E (iv pd m) code arg line chain).fZ d) fs W1 Lm W'):ik P T Z pd ((zv P.E m code arg line chain).fZ d) fs s W (Z.gs::(Lm++Sj)) W':=ik.from hg ((h.fO hg).add k)
theorem Hu {E:gd} {k:Int} {L:iN} (h:s.outer=M)(hf:E.gm=M):zR E s k last L=L.wm ((zv E L.m 14 E.args k s.chain).fZ (L.m.depth-1)):=by unfold zR;rw[Lu h,Lu hf]
theorem Hr {E:gd} {k:Int} {L:iN} (h:s.outer=M)(hf:E.gm=U):zR E s k last L=L.wm ((zv E L.m 16 (E.args+16*E.words) k s.chain).fZ (L.m.depth-1)):=by unfold zR;rw[Lu h,Lt (by rw[hf];decide)]
theorem JG {E:gd} {k:Int} {L:iN} (h:s.outer=U):zR E s k M L=L.wm (L.m.fZ (L.m.depth-1)):=by unfold zR;rw[Lt (by rw[h];decide),Lu rfl]
theorem Ht {E:gd} {k:Int} {L:iN} (h:s.outer=U):zR E s k U L=⟨(zv E L.m 10 0 k s.chain).fZ (L.m.depth-1),L.leaves++[(L.m.items.length:Int)],L.fR,L.fT⟩:=by unfold zR;rw[Lt (by rw[h];decide),Lt (by decide)]
theorem zph {Z:iM} {k:Int} {hd:Q Int} {ex:Q (Int × Int)} (h:ll P T Z pd m fs (s.wl lv) W L)(hE:ij P.E)(hO:nS P.E Z s)(hcl:s.chain.length<=1000)(hln:m.items.length<=100000)(hlv:lv.length<=100000)(hdp : -1000000<=m.depth/\m.depth<=1000000)(hk:fV k) :
  LR prog 263 #[.pointer (H ⟨P.g,0,V⟩),.pointer (H ⟨Z.gs,0,V⟩),F I k,X last] W fun r W'=>r=.returned (.tuple #[])/\∃ dep,ik P T Z pd ((zR P.E s k last ⟨m,lv,hd,ex⟩).m.fZ dep) fs (s.wl (zR P.E s k last ⟨m,lv,hd,ex⟩).leaves) W L W':=by
 have aE:=hE.args;have aF:=hE.words;obtain⟨Aj,cj,Sj,Lm,a0,rfl⟩:=h;obtain⟨q0,q1,q2,q3,q4,q5,q6,q7,qf,ql⟩:=jA a0.sc.box;obtain⟨Ai,ci,Af,cf,z0,z2,z5,z6,z7,z8,z9,ax,zf,zl⟩:=a0.st.cells;rw[lN] at z8;clear q0 q1 q2 q4 q6 qf z0 z2 z7 z9 ax zf ql zl;have az:=fE a0;have ag:Ll I (16*P.E.words)=16*P.E.words:=kt (by omega);have ah:Ll I (P.E.args+16*P.E.words)=P.E.args+16*P.E.words:=kt (by omega);have a5:(s.wl lv).chain.length<=1000:=hcl;have ac:fV (iv pd m).depth:=iu (by show -9223372036854775808<=m.depth/\m.depth<=9223372036854775807;omega);have ad:fV ((iv pd m).depth + -1):=iu (by show -9223372036854775808<=m.depth + -1/\m.depth + -1<=9223372036854775807;omega);rcases hO with⟨ho,an,ao,aw⟩ | ⟨ho,aD⟩
 ·have HO:=fE ho
  have a4:((s.wl lv).chain.length)=0:=by show s.chain.length=0;rw[an];rfl
  have aj:=fE q5;rw[a4] at q5;rw[ao] at q3;have aq:=fE ao;obtain⟨fr,ae⟩:∃ b,P.E.gm=b:=⟨_,rfl⟩
  have ai:=fE ae;rw[ae] at z5;clear a4 an ho aw ae;cases fr with
  | true=>
   go_enter func263,ntmps263;go_wp2_with(first | (go_at_call 248;(with_reducible refine(zd4 a0.st rfl aj.out a0.sc.chain.read a5 (by rw[lN];omega) (iu (by omega)) (iu (by omega)) hk ac ad).mono ?_);rintro e w2 ⟨rfl,h2⟩));exact MF (v:=.tuple #[]) (by simp[Ly,results263,go_sem]) rfl ⟨rfl,m.depth-1,by rw[Hu HO.out ai.out];exact a0.add h2⟩
  | false=>
   go_enter func263,ntmps263;go_wp2_with(fail);go_region_held3 (fun w'=>Lg w' ⟨Z.gs,3,V⟩=H (F I P.E.args)/\Lg w' ⟨P.g,6,V⟩=H (F I P.E.words)) ((repeat' apply Ls) <;> ((repeat (first | with_reducible assumption | with_reducible refine zC ?_ _ _ | with_reducible refine zo ?_ _ | with_reducible refine zb ?_ | with_reducible refine oL ?_ _));done)) (first | (go_at_call 248;(with_reducible refine(zd4 (a0.st.fO gF) rfl (za gF aj.out) (Ty.up _ a0.sc.chain.read gF) a5 (by rw[lN];omega) (iu (by omega)) (iu (by omega)) hk ac ad).mono ?_);rintro e w2 ⟨rfl,h2⟩;have h3:=h2;obtain⟨L2,g1,g2,g3⟩:=h3;obtain⟨_,_,_,q3,_,_,_,_,_,_⟩:=jA ((a0.sc.fO gF).next g2 g3).box;obtain⟨_,_,_,_,_,_,_,z6,_⟩:=g1.cells;rw[aq.out] at q3;clear g1 g2 g3));go_wp2_with(fail);exact MF (v:=.tuple #[]) (by simp[Ly,results263,go_sem]) rfl ⟨rfl,m.depth-1,by rw[Hr HO.out ai.out];exact a0.wX gF h2⟩
 have HO:=fE ho;have au:((s.wl lv).chain.length:Int) > 0:=by show (s.chain.length:Int) > 0;omega
 have av:0<((s.wl lv).chain.length:Int):=by show 0<(s.chain.length:Int);omega
 clear q3 z5 z6 ag ah;cases last with
 | true=>
  go_enter func263,ntmps263;go_wp2_with(fail);exact MF (v:=.tuple #[]) (by simp[Ly,results263,go_sem]) rfl ⟨rfl,m.depth,by rw[JG HO.out];exact(ik.refl ⟨Aj,cj,Sj,Lm,a0,rfl⟩).fO gF⟩
 | false=>
  have q7:Lg W ⟨Z.gs,7,V⟩=H (J Aj lv.length cj):=q7;go_enter func263,ntmps263;go_upto_region 3 with(fail)
  ·refine kC (fun w'=>Lg w' ⟨Z.gs,7,V⟩=H (J Aj lv.length cj)/\Lg w' ⟨P.g,8,V⟩=H (J Ai m.items.length ci)) 14 (by kernel_rfl) ⟨zb q7,zb z8⟩ (fun hSx=>?_)
   have aa:fF W W.drew:=(fF.refl W).drew;have a0:=a0.fO aa;clear q7 z8 q5;generalize W.drew=Wd at a0 aa hSx |-;obtain⟨q7,z8⟩:=id hSx;refine .tq 0 [14] hSx ?_
   try simp only[kT]
   refine .tq 1 [14] hSx ?_
   try simp only[kT]
   refine .tq 2 [14] hSx ?_
   try simp only[kT]
   refine .tq 3 [14] hSx ?_
   try simp only[kT]
   refine .tq 4 [14] hSx ?_
   try simp only[kT]
   refine .tq 5 [14] hSx ?_
   try simp only[kT]
   refine .tq 6 [14] hSx ?_
   try simp only[kT]
   refine .tq 7 [14] hSx ?_
   try simp only[kT]
   refine .tq 8 [14] hSx ?_
   try simp only[kT]
   refine .tq 9 [14] hSx ?_
   try simp only[kT]
   refine fX.s1 10 (fun Le hK=>?_);go_simp;have a2:=Ls (zo q7 (C #[F I (m.items.length:Int)] 3)) (zo z8 (C #[F I (m.items.length:Int)] 3));refine hK.out _ _ a2 ?_;clear hK
   try simp only[kT]
   refine fX.s1 11 (fun Le hK=>?_);have a3:fF Wd (Wd.alloc (C #[F I (m.items.length:Int)] 3)):=(fF.refl _).alloc _;have a8:=a0.fO a3;refine zO (W1:=Wd) (L:=lv.length+1) rfl (.tmp 43) (.tmp 49) kJ zP (S:=Sj) a8.lv (ec:=[F I (m.items.length:Int)]) (y:=(m.items.length:Int)) (B:=0) ⟨rfl,by omega,by omega⟩ rfl rfl rfl (by intro j u hu;simpa[go_sem] using hu) rfl (by omega) (by omega) ?_;intro A7 c7 W7 S7 a7 ak al;have a2:=Ls (kG q7 a3 a7 (fun hm=>(a0.dv _ hm).2.1 rfl)) (kG z8 a3 a7 (fun hm=>(a0.dv _ hm).1 a0.st.iX.1));have a9:=a8.leaf (lv:=lv++[(m.items.length:Int)]) a7 (by rw[Lj];exact ak) al;have am:=(a7.block Z.gs (blt a8.sc.box) (fun hm=>(a0.dv _ hm).2.1 rfl)).trans a8.sc.box;obtain⟨_,_,_,_,_,_,_,_,qf,ql⟩:=jA am;clear am;refine hK.out _ _ a2 ?_;clear hK
   try simp only[kT]
   refine .tq 12 [13,14] a2 ?_
   try simp only[kT]
   refine .tq 13 [14] a2 ?_
   try simp only[kT]
   refine fX.sl (fun Le hK=>?_);go_simp;refine hK.out _ _ ?_;clear hK
   try simp only[kT]
   rw[Lj] at a9;simp only[LJ,Mk,Mb] at a9;generalize W7.setCell _ _=W8 at a9 |-;obtain⟨L8,⟨ay,aC,aB,aA,a1,ar⟩,af,a6⟩:=a9;have ap:=fE (aa.trans a3);have ab:((s.wl lv).wl (lv++[(m.items.length:Int)])).chain.length<=1000:=hcl;clear q7 z8 a2 hSx a0 a7 ak al a3 aa;obtain⟨_,_,_,_,_,q5,_,_,_,_⟩:=jA a1.sc.box;go_wp2_with(first | (go_at_call 248;(with_reducible refine(zd4 a1.st rfl q5 a1.sc.chain.read ab (by rw[lN];omega) (iu (by omega)) (iu (by omega)) hk ac ad).mono ?_);rintro e w2 ⟨rfl,h2⟩));exact MF (v:=.tuple #[]) (by simp[Ly,results263,go_sem]) rfl ⟨rfl,m.depth-1,by rw[Ht HO.out];exact ik.from ap.out (ik.trans af a6 (by rw[ar];exact a1.add h2))⟩
theorem BM (E:gd)(g k:Int)(s:fL)(m:fW):(nG E g k s m).start=U:=by
 unfold nG;simp only;split
 ·rfl
 ·rename_i h
  exact Ow.2 h
theorem Cb (E:gd)(k:Int)(chain fR:Q Int):∀(n i:Nat)(m:fW),m.start=U->(lK E k chain fR n i m).start=U
 | 0,_,_,h=>h
 | n+1,i,m,h=>by
  show (lK E k chain fR n (i+1) _).start=U;refine Cb E k chain fR n (i+1) _ ?_;split
  ·rfl
  ·exact h
theorem FD (E:gd)(s:fL)(k:Int)(L:iN):(zR E s k U L).m.start=U:=by
 unfold zR;split
 ·split <;> rfl
 ·rfl
theorem Fj (E:gd)(s:fL)(k:Int)(b:Bool)(L:iN)(h:L.m.start=U):(zR E s k b L).m.start=U:=by
 unfold zR;split
 ·split <;> rfl
 ·split
  ·exact h
  ·rfl
theorem BQ (E:gd)(rep:Int->fW->fW)(fs:Q Int)(s:fL)(e k:Nat)(x:fG)(L:iN)(h:L.m.start=U):(je E rep fs s e k x L).m.start=U:=by
 unfold je;simp only;split
 ·rfl
 ·split
  ·split
   ·exact Fj _ _ _ _ _ rfl
   ·exact Cb _ _ _ _ _ _ _ h
  ·split
   ·rfl
   ·split
    ·rfl
    ·split
     ·exact FD _ _ _ _
     ·rfl
theorem Bm (E:gd)(rep:Int->Int->fW->fW)(fs:Q Int)(s:fL)(e:Nat):∀(l:Q fG)(n k:Nat)(L:iN),L.m.start=U->(nA E rep fs s e l n k L).m.start=U
 | [],0,_,_,h=>h
 | _::_,0,_,_,h=>h
 | [],_+1,_,_,h=>h
 | x::r,n+1,k,L,h=>Bm E rep fs s e r n (k+1) _ (BQ E _ fs s e k x L h)
theorem Gc (E:gd)(d:Nat)(fs:Q Int)(s:fL)(m:fW)(h:m.start=U):(zH E d fs s m).1.start=U:=by
 cases d with
 | zero=>exact h
 | succ d=>exact Bm _ _ _ _ _ _ _ _ _ h
theorem Fw (E:gd)(d:Nat)(fs:Q Int)(k:Int)(s:fL)(g:Int)(m:fW):(zE E (zH E d) fs k s g m).start=U:=
 Gc E d _ _ _ (BM E g k s m)
theorem Ex.nk {E:gd} {rep:Int->fW->fW} {k:Int} (hr:∀ g m,(rep g m).start=U):∀(e:Ex)(m:fW),(e.comp E rep fs s k m).start=U
 | .node t ks,m=>by
  show (kL E rep fs s k t _).start=U;unfold kL;split
  ·rfl
  ·split
   ·rfl
   ·split
    ·split
     ·exact hr _ _
     ·rfl
    ·rfl
theorem CX {p:Q fG} {f:Nat} {zf:Nat->Int} (he:gg p f e)(hx:p[f]?=H x)(h0:x.Kind=0)(m:fW):zV m (l1 p f zf (e+1)) ((e+1:Nat):Int)=m:=by
 unfold zV;rw[xY _ _ _ _ (fun z hz ht=>?_)]
 ·rfl
 ·obtain⟨j,g1,g2,g3⟩:=qL.1 hz
  obtain⟨_,h2⟩:=vT g1 g3;rcases h2 with⟨b,hb,a1,a3,a2⟩ | ⟨_,h3,h4⟩
  ·have a0:zJ p b=(e:Int):=by omega
   have:=(vS a0).same he;subst this;rcases nI p b with h | ⟨l,h,hE⟩
   ·have:lF p b=b:=by unfold lF;rw[h];rfl
    omega
   ·obtain⟨y,hy,h3⟩:=hE.iff
    rw[hx] at hy;injection hy with hy
    rw[<-hy] at h3;omega
  ·omega
theorem Gp {l:Q fS} {js:Q Int} {j v:Int} (h:js[k]?=H j):km l (js.take (k+1)) v=zL (km l (js.take k) v) j.toNat v:=by
 unfold km;rw[ME,h,Ov];rfl
theorem Hf {α:Type} {xs:Q α} {x:α} (h:xs[k]?=H x):xs.drop k=x::xs.drop (k+1):=by
 obtain⟨h1,rfl⟩:=Lh.1 h;exact LI h1
theorem H6 {c Lf:Nat} (h1:a<=max b Lf+24)(h2:max b Lf<=max c Lf+24*(k-(i+1)))(hi:i<k):max a Lf<=max c Lf+24*(k+1-(i+1)):=by omega
theorem JK (h:a<=k-(i+1))(h2:b<=a+1)(hi:i<k):b<=k+1-(i+1):=by omega
theorem vN (E:gd)(s:fL)(k:Int)(last:Bool)(m:fW)(lv hd:Q Int)(ex:Q (Int × Int)):(zR E s k last ⟨m,lv,hd,ex⟩).fR=hd/\(zR E s k last ⟨m,lv,hd,ex⟩).fT=ex:=by
 unfold zR;split
 ·split <;> exact⟨rfl,rfl⟩
 ·split <;> exact⟨rfl,rfl⟩
theorem Cn (E:gd)(s:fL)(k:Int)(last:Bool)(m:fW)(lv hd:Q Int)(ex:Q (Int × Int)):(zR E s k last ⟨m,lv,hd,ex⟩).leaves.length<=lv.length+1:=by
 unfold zR;split
 ·split <;> simp[iN.wm]
 ·split <;> simp[iN.wm]
theorem Js (E:gd)(rep:Int->fW->fW)(fs:Q Int)(s:fL)(lv:Q Int)(k:Int)(t:gu)(m:fW):kL E rep fs (s.wl lv) k t m=kL E rep fs s k t m:=rfl
mutual
theorem Ex.jM (E:gd)(rep:Int->fW->fW)(fs:Q Int)(s:fL)(lv:Q Int)(k:Int):∀(e:Ex)(m:fW),e.comp E rep fs (s.wl lv) k m=e.comp E rep fs s k m
 | .node t ks,m=>by simp only[Ex.comp,gj.jM E rep fs s lv k ks,Js]
theorem gj.jM (E:gd)(rep:Int->fW->fW)(fs:Q Int)(s:fL)(lv:Q Int)(k:Int):∀(ks:gj)(m:fW),ks.comp E rep fs (s.wl lv) k m=ks.comp E rep fs s k m
 | .nil,_=>rfl
 | .cons e r,m=>by simp only[gj.comp,Ex.jM E rep fs s lv k e,gj.jM E rep fs s lv k r]
end
theorem GQ {E:gd} {rep:Int->fW->fW} {L:iN} {zf:Nat->Int} (hx:E.p[k]?=H x)(hb:gW x.Kind 0 7=M)(h0:x.Kind≠0)(hsf:s.f=(i:Int))(hik:i<k)(hL:L.fT=l1 E.p i zf k) :
  ∃ z:Int,(x.Kind=4->z=(L.m.items.length:Int))/\((x.Kind=3∨x.Kind=5)->z=((nT E rep fs s k x.Expr (zV L.m L.fT k).begun).items.length:Int))/\(je E rep fs s e k x L).fT=l1 E.p i (fun j=>if j=k then z else zf j) (k+1):=by
 have a1:=lq hx;have a0:∀ z:Int,l1 E.p i (fun j=>if j=k then z else zf j) k=l1 E.p i zf k:=fun z=>FN (fun j hj=>Lt (by omega));by_cases k4:x.Kind=4
 ·refine⟨(L.m.items.length:Int),fun _=>rfl,fun h=>by omega,?_⟩
  rw[xJ _ _ _ hik,a0];unfold je;simp only;rw[Lu k4,hL];unfold lU;rw[a1,Lu k4,hsf,Lw];simp only[Nx]
 by_cases k35:x.Kind=3∨x.Kind=5
 ·refine⟨((nT E rep fs s k x.Expr (zV L.m L.fT k).begun).items.length:Int),fun h=>absurd h k4,fun _=>rfl,?_⟩
  rw[xJ _ _ _ hik,a0];unfold je;simp only;rw[Lt k4,Lt (by omega),Lt (by omega),Lt (by omega),Lt (by omega)];show L.fT++_=_;rw[hL];unfold lU;rw[a1,Lt k4,Lu k35];simp only[Nx]
 refine⟨0,fun h=>absurd h k4,fun h=>absurd h k35,?_⟩;have he:∀ z:Int,lU E.p i (fun j=>if j=k then z else zf j) k = []:=fun z=>by unfold lU;rw[a1,Lt k4,Lt k35]
 rw[xJ _ _ _ hik,a0,he,MC,<-hL];have a2:=zX.1 hb;unfold je;simp only;rw[Lt k4];split
 ·split
  ·exact(vN E s k M _ _ _ _).2
  ·rfl
 ·split
  ·rfl
  ·split
   ·rfl
   ·split
    ·exact(vN E s k U _ _ _ _).2
    ·rename_i h7 h1 h2 h6
     exfalso;omega
theorem GR {E:gd} {rep:Int->fW->fW} {L:iN}:(je E rep fs s e k x L).fR=if x.Kind=4∨x.Kind=7 then L.fR else L.fR.set k (L.m.items.length:Int):=by
 unfold je;by_cases k4:x.Kind=4
 ·rw[Lu (Or.inl k4:x.Kind=4∨x.Kind=7)]
  simp only[Lu k4]
 by_cases k7:x.Kind=7
 ·rw[Lu (Or.inr k7:x.Kind=4∨x.Kind=7)]
  simp only[Lt k4,Lu k7];split
  ·exact(vN E s k M _ _ _ _).1
  ·rfl
 rw[Lt (fun h:x.Kind=4∨x.Kind=7=>h.elim k4 k7)];simp only[Lt k4,Lt k7];split
 ·rfl
 ·split
  ·rfl
  ·split
   ·exact(vN E s k U _ _ _ _).1
   ·rfl
theorem JX {n:Int} (h:0<=n/\n<=7)(h0:n≠0)(k1:¬ n=1)(k2:¬ n=2)(k4:¬ n=4)(k6:¬ n=6)(k7:¬ n=7):n=3∨n=5:=by omega
theorem JJ {E:gd} {rep:Int->fW->fW} {L:iN}:(je E rep fs s e k x L).leaves.length<=L.leaves.length+1:=by
 unfold je;simp only;split
 ·exact NK _
 ·split
  ·split
   ·exact Cn E s k M _ _ _ _
   ·exact NK _
  ·split
   ·exact NK _
   ·split
    ·exact NK _
    ·split
     ·exact Cn E s k U _ _ _ _
     ·exact NK _
theorem Hq {E:gd} {rep:Int->fW->fW} {L:iN} {h:Nat->Int} (hh:∀ j:Nat,i<j->j<k->zG E.p j=5->L.fR.getD j 0=h j)(hx:E.p[k]?=H x)(hl:L.fR.length=E.p.length) :
  (∀ j:Nat,i<j->j<k+1->zG E.p j=5->(je E rep fs s e k x L).fR.getD j 0=(fun j=>if j=k then (L.m.items.length:Int) else h j) j)/\(je E rep fs s e k x L).fR.length=E.p.length:=by
 have a0:=(Lh.1 hx).1;rw[GR];refine⟨fun j h1 h2 h5=>?_,?_⟩
 ·simp only
  by_cases hjk:j=k
  ·subst hjk
   rw[lq hx] at h5;rw[Lu rfl,Lt (by omega),Mp,MP (by omega)];rfl
  ·rw[Lt hjk,<-hh j h1 (by omega) h5]
   split
   ·rfl
   ·rw[Mp,Mp,M5 (fun e=>hjk e.symm)]
 ·split
  ·exact hl
  ·rw[Ma];exact hl
end Go.Proofs.YtiihkapmggfjkaaGreat
