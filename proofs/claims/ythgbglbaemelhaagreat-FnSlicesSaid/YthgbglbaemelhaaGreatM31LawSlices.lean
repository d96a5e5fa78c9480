/-
  PART.
-/
import Derived.Test.YthgbglbaemelhaaGreatM30LawSlices
set_option linter.unusedVariables false
set_option linter.unusedSimpArgs false
set_option maxRecDepth 100000
set_option maxHeartbeats 8000000
namespace Go.Proofs.YthgbglbaemelhaaGreat
open Value renaming slice->G,int->J,bool->H
open IntKind renaming i64->C,wrap->QP
open Option renaming none->D,some->Z
open Obj renaming cells->F
open Bool renaming false->I,true->M
open Go renaming World->U,results->Rd,Calls->Rh,Addr->Ri,yielded->Su,undef->TE
open World renaming cell?->QL,setCell->RQ
open _root_.Int renaming toNat_natCast->Ra
open List renaming length_cons->Rc,length_nil->Ru,nil_append->RC,take_succ_cons->RN,take_zero->Sd
open Region renaming wanted->Rx,ready->RL,Mode->Ts,noSelect->Tn,free->Ui
open RowKit renaming intOf->Ry
open Tryz
open Go.RowKit
variable {Ai As:X Ri}{L Si Ss:Q Nat}{P:jj}{W:U}{ci cs k:Nat}{e:TypeId}{m:fS}{r:Q Value}{rows:Q (Q Value)}
section
variable {P:Program} {ops:Array Oper} {QI:Exit->Act->U->Prop} {md:Ts} {S:U->Prop} {m:Nat}
def pK (QE:Q Nat)(listed:Array Bool):Nat:=(QE.filter fun i=>!listed.getD i M).length
theorem Hv:∀(QE:Q Nat){listed:Array Bool}{i:Nat},QE.Nodup->i∈QE->listed.getD i M=I->pK QE (listed.setIfInBounds i M)+1=pK QE listed
 | [],_,_,_,h,_=>by cases h
 | j::QE,listed,i,hN,h,hi=>by
  obtain⟨hj,hN⟩:=TA.1 hN;unfold pK;by_cases hji:j=i
  ·subst hji
   have h1:QE.filter (fun k=>!(listed.setIfInBounds j M).getD k M)=QE.filter (fun k=>!listed.getD k M):=by
    refine List.filter_congr (fun k hk=>?_);rw[UT M (show j≠k from fun h=>hj (h ▸ hk))]
   have h2:(listed.setIfInBounds j M).getD j M=M:=by
    rcases Uy j listed.size with h' | h'
    ·simp[h']
    ·simp[To h'] at hi
   rw[Te,Te,h2,hi,h1];rfl
  ·have hm:i∈QE:=by
    rcases Rp.1 h with h | h
    ·exact absurd h.symm hji
    ·exact h
   have h1:=Hv QE hN hm hi;unfold pK at h1;rw[Te,Te,UT M (Ne.symm hji)];split
   ·simp only[Rc];omega
   ·exact h1
theorem fA.inv (QE:Q Nat)(QD:Array Bool->Act->U->Prop)(c:Nat)(hM:QE.Nodup)
  (hs:∀ listed a w,QD listed a w->0<pK QE listed->RL md ops listed≠[]/\∀ i∈RL md ops listed,i∈QE/\wpOp P ops QI i (fun a' w'=>(i≠m->S w')/\QD (listed.setIfInBounds i M) a' w') a w)
  (he:∀ listed a w,QD listed a w->pK QE listed=0->fA P md ops QI S m c listed a w) :
  ∀(k:Nat) (listed:Array Bool) (a:Act) (w:U),pK QE listed=k->QD listed a w->fA P md ops QI S m (k+c) listed a w:=by
 intro k;induction k with
 | zero=>
  intro listed a w hk h;rw[Rk];exact he listed a w h hk
 | succ k ih=>
  intro listed a w hk h;obtain⟨h1,h2⟩:=hs listed a w h (by omega);rw[show k+1+c=(k+c)+1 from by omega];refine⟨fun h0=>absurd h0 h1,fun i hi=>?_⟩;obtain⟨h3,h4⟩:=h2 i hi;refine wpOp_mono (fun a' w' h5=>⟨h5.1,ih _ _ _ ?_ h5.2⟩) h4;have h6:=Hv QE hM h3 (mem_ready.1 hi).1;omega
theorem fA.inv2 (QE:Q Nat)(QD:Array Bool->Act->U->Prop)(R:Array Bool->Q Nat)(c:Nat)(hM:QE.Nodup)
  (hr:∀ listed a w,QD listed a w->0<pK QE listed->RL md ops listed=R listed/\R listed≠[]/\∀ i∈R listed,i∈QE)
  (hs:∀ listed a w i,QD listed a w->i∈R listed->wpOp P ops QI i (fun a' w'=>(i≠m->S w')/\QD (listed.setIfInBounds i M) a' w') a w)
  (he:∀ listed a w,QD listed a w->pK QE listed=0->fA P md ops QI S m c listed a w) :
  ∀(k:Nat) (listed:Array Bool) (a:Act) (w:U),pK QE listed=k->QD listed a w->fA P md ops QI S m (k+c) listed a w:=
 fA.inv QE QD c hM (fun listed a w hI hu=>by
  obtain⟨h1,h2,h3⟩:=hr listed a w hI hu;rw[h1]
  exact⟨h2,fun i hi=>⟨h3 i hi,hs listed a w i hI hi⟩⟩) he
theorem fA.Bo (QE:Q Nat)(QD:Act->Array Bool->Act->U->Prop)(R:Array Bool->Q Nat)(c k:Nat)(hM:QE.Nodup){listed:Array Bool}{a0:Act}{w0:U}
  (hr:∀ listed a w,QD a0 listed a w->0<pK QE listed->RL md ops listed=R listed/\R listed≠[]/\∀ i∈R listed,i∈QE)
  (hs:∀ listed a w i,QD a0 listed a w->i∈R listed->wpOp P ops QI i (fun a' w'=>(i≠m->S w')/\QD a0 (listed.setIfInBounds i M) a' w') a w)
  (he:∀ listed a w,QD a0 listed a w->pK QE listed=0->fA P md ops QI S m c listed a w) (hk:pK QE listed=k) (h0:QD a0 listed a0 w0):fA P md ops QI S m (k+c) listed a0 w0:=
 fA.inv2 QE (QD a0) R c hM hr hs he k listed a0 w0 hk h0
theorem AB {α:Type} {T:Ty α} {v:Value} {xs:Q α} {S:Q Nat} (h:Has (T.sl e) W [v] xs S):∃ A c,v=G A xs.length c:=by
 obtain⟨A,c,_,_,hv,_⟩:=h.1;injection hv with hv _
 exact⟨A,c,hv⟩
theorem vN {i:Nat} {o:Oper} {a:Act} {w:U} {R:Act->U->Prop} (ho:ops[i]?=Z o)
  (h:∀ K:Act->U->Prop,Hid (∀ a w,R a w->K a w)->if Rx o (Su ops a.tmps)=M then Oper.wp P o a w K QI else K (a.put o.dst TE) w):wpOp P ops QI i R a w:=
 wpOp_step ho (fun K hK=>h K (fh fun a w hR=>hK a w hR))
end
theorem ig.scopes {rows':Q (Q Value)} {W':U} {A':X Ri} {c':Nat} {S':Q Nat} (h:ig P m rows W Ai ci Si As cs Ss)
  (hon:fw Ss W W') (hH:Has ((mY 6).sl 253) W' [G A' rows'.length c'] rows' S') (hS:∀ b∈S',b∈Ss∨W.heap.size<=b) :
  ig P m rows' (W'.setCell ⟨P.g,11,D⟩ (G A' rows'.length c')) Ai ci Si A' c' S'/\fw (P.g::(Si++Ss)) W (W'.setCell ⟨P.g,11,D⟩ (G A' rows'.length c')):=by
 have a4:=(blt h.box)
 have a3:=(hon.block P.g a4 h.gn.2).trans h.box;have a0:fw [P.g] W' (W'.setCell ⟨P.g,11,D⟩ (G A' rows'.length c')):=(fw.refl _ _).setCell (p:=⟨P.g,11,D⟩) (by simp) _;have a6:=h.fx.size
 have a1:P.g∉S':=fun hm=>by
  rcases hS _ hm with h1 | h1
  ·exact h.gn.2 h1
  ·omega
 have a2:∀ b∈Si,b∉S':=fun b hb hm=>by
  rcases hS b hm with h1 | h1
  ·exact h.jS b hb h1
  ·have:=h.hJ.lt b hb;omega
 have a5:∀ b∈S',P.Y.heap.size<=b:=fun b hb=>by
  rcases hS b hb with h1 | h1
  ·exact h.low.2.2 b h1
  ·omega
 refine⟨⟨jb (i:=11) (v:=G A' rows'.length c') a3 rfl,(h.hJ.fJ hon (fun b hb hm=>h.jS b hb hm)).fJ a0 (fun b hb hm=>by simp at hm;exact h.gn.1 (hm ▸ hb)),hH.fJ a0 (fun b hb hm=>by simp at hm;exact a1 (hm ▸ hb)),a2,⟨h.gn.1,a1⟩,a0.fx (hon.fx h.fx h.low.2.2) (fun b hb=>by simp at hb;exact hb ▸ h.low.1),⟨h.low.1,h.low.2.1,a5⟩⟩,?_⟩;exact(hon.mono (fun b hb=>by simp[hb])).trans (a0.mono (fun b hb=>by simp at hb;simp[hb]))
theorem jf.pop (h:jf P m (rows++[r]) W L):∃ A c,QL W ⟨P.g,11,D⟩=Z (G A (rows.length+1) c)/\rows.length+1<=c/\
  (∀ W2,(Instr.sliceAt 249 (G A (rows.length+1) c) D (Z (J C (rows.length:Int))) D).run prog W2=.ok (G A rows.length c) W2)/\jf P m rows (W.setCell ⟨P.g,11,D⟩ (G A rows.length c)) L/\fw L W (W.setCell ⟨P.g,11,D⟩ (G A rows.length c)):=by
 obtain⟨Ai,ci,Si,As,cs,Ss,h,rfl⟩:=h;have hl:(rows++[r]).length=rows.length+1:=by simp
 have hc:=Has.cut (T:=mY 6) (k:=rows.length) (fun h=>h.2.2.2) h.nh (by omega);rw[List.take_left] at hc;obtain⟨h1,h2⟩:=h.scopes (fw.refl Ss W) hc (fun b hb=>.inl hb);have a0:=h.nh.read;rw[hl] at a0;refine⟨As,cs,?_,?_,(Oj Ii a0 (by omega)).1,⟨Ai,ci,Si,As,cs,Ss,h1,rfl⟩,h2⟩
 ·have h3:=(nr h.box).2.2.2.2.2.2.2.2.2.2.2.1
  rw[hl] at h3;exact h3
 ·obtain⟨A',c',h5,h6,_⟩:=h.nh.read
  injection h5 with h5 _
  injection h5 with hA hn hc
  omega
theorem iR.snoc {fs:Q Int} (h:iR fs rows)(s:fG)(T:iC)(Av:X Ri)(cv:Nat):iR (fs++[s.f]) (rows++[jZ s T Av cv]):=by
 unfold iR at h |-;rw[TR,TR,h];rfl
def AU (P:jj)(d:Nat):Prop:=∀(T:iC)(m:fS)(R0:Q (Q Value))(s:fG)(W:U)(L:Q Nat)(fs0:Q Int)(i e:Nat),nD P T m R0 s W L->iR fs0 R0->R0.length<=3->iu P.E s->s.leaves = []->(fs0++[s.f]).length=s.chain.length+1->s.chain.length+d=3->iB P.E m->m.items.length<=5000->s.f=(i:Int)->gz P.E.p i e->0<=m.depth->m.depth<=jN (d+1)->
 Rh prog 204 #[.pointer (Z ⟨P.g,0,D⟩)] W fun r W'=>r=.returned (.tuple #[])/\gg P T (iX P.E (d+1) (fs0++[s.f]) s m).1 R0 (s.wl (iX P.E (d+1) (fs0++[s.f]) s m).2) W L W'
theorem Ka {l:Q fP} {js:Q Int} {j v:Int} (h:js[k]?=Z j):pN l (js.take (k+1)) v=mw (pN l (js.take k) v) j.toNat v:=by
 unfold pN;rw[RH,h,List.foldl_append];rfl
theorem ig.Bp (h:ig P m (rows++[r]) W Ai ci Si As cs Ss):Has ((mY 6).sl 253) W [G As (rows.length+1) cs] (rows++[r]) Ss:=by
 have h9:=h.nh;rw[QR] at h9;exact h9
theorem I0 {g:Nat} {o0 o1 o2 o3 o4 o5:Value} (h:W.heap[g]?=Z (F #[o0,o1,o2,o3,o4,o5] e (0,0)))(v0 v1 v2 v3 v4 v5:Value) :
  ((((((W.setCell ⟨g,0,D⟩ v0).setCell ⟨g,1,D⟩ v1).setCell ⟨g,2,D⟩ v2).setCell ⟨g,3,D⟩ v3).setCell ⟨g,4,D⟩ v4).setCell ⟨g,5,D⟩ v5).heap[g]?=Z (F #[v0,v1,v2,v3,v4,v5] e (0,0))/\fw [g] W ((((((W.setCell ⟨g,0,D⟩ v0).setCell ⟨g,1,D⟩ v1).setCell ⟨g,2,D⟩ v2).setCell ⟨g,3,D⟩ v3).setCell ⟨g,4,D⟩ v4).setCell ⟨g,5,D⟩ v5):=
 ⟨jb (i:=5) (v:=v5) (cur':=#[v0,v1,v2,v3,v4,v5]) (jb (i:=4) (v:=v4) (cur':=#[v0,v1,v2,v3,v4,o5]) (jb (i:=3) (v:=v3) (cur':=#[v0,v1,v2,v3,o4,o5]) (jb (i:=2) (v:=v2) (cur':=#[v0,v1,v2,o3,o4,o5]) (jb (i:=1) (v:=v1) (cur':=#[v0,v1,o2,o3,o4,o5]) (jb (i:=0) (v:=v0) (cur':=#[v0,o1,o2,o3,o4,o5]) h rfl) rfl) rfl) rfl) rfl) rfl,((((((fw.refl _ _).setCell (p:=⟨g,0,D⟩) (by simp) v0).setCell (p:=⟨g,1,D⟩) (by simp) v1).setCell (p:=⟨g,2,D⟩) (by simp) v2).setCell (p:=⟨g,3,D⟩) (by simp) v3).setCell (p:=⟨g,4,D⟩) (by simp) v4).setCell (p:=⟨g,5,D⟩) (by simp) v5⟩
theorem zs5 {T:iC} {d:Nat} {R0:Q (Q Value)} {s:fG} {fs0:Q Int} {g:Int} {A2:X Ri} {n2 c2:Nat} (hLW:AU P d)(hR:qi P)(h:nD P T m R0 s W L)(hF:iR fs0 R0)(hs:iu P.E s)(hd3:s.chain.length+(d+1)=3)(hfs:(fs0++[s.f]).length=s.chain.length+1)
  (hm:iB P.E m) (hcnt:m.items.length<200) (hg:isFun P.E.p g) (hrep:mP P.E (fs0++[s.f]) m g=M) (h0:((zZ P.E.p g).length:Int)<=m.depth) (h1:m.depth<=jN (d+1)) (hk:k<P.E.p.length) (hk0:kM P.E.p k≠0) :
  Rh prog 219 #[.pointer (Z ⟨P.g,0,D⟩),J C g,J C k,.agg #[J C s.f,G T.Ac s.chain.length T.cc,G T.Al s.locals.length T.cl,J C s.first,H s.outer,G A2 n2 c2]] W fun r W'=>r=.returned (.tuple #[])/\gg P T (jL P.E (iX P.E (d+1)) (fs0++[s.f]) k s g m) R0 s W L W':=by
 obtain⟨Av,cv,Sv,Lm,hB,rfl⟩:=h;obtain⟨i,rfl,x,hx,d6⟩:=hg;have eg:=hR.env.pc.len;have ed:=(QM.1 hx).1;have ce:=hB.st.iU.2.2.2.2;have d4:=hR.up ce;obtain⟨gp,op,x',eG,eL,eH,eM,cK,ec,ct,p0,p1,p2,p3,q0,q1,q2,_⟩:=lK d4 ed;obtain rfl:x'=x:=by rw[hx] at ct;injection ct with h;exact h.symm
 obtain⟨z0,z1,z2,z5,z6,z7,z8,z9,aV,zf,zl⟩:=hB.st.ij;rw[cK] at z0;have aB:=vG hx;have eT:(i:Int)<(P.E.p.length:Int):=by omega
 have bZ:=hs.first;have eh:=hs.locals.2;have dZ:=hR.env.args;have cq:oV P.E s=oV P.E s:=rfl;obtain⟨a1,ht⟩:∃ t,oV P.E s=t:=⟨_,rfl⟩
 have dU:=hs.chain.1
 have f2:0<=a1/\a1<=40:=by
  rw[<-ht];unfold oV;split
  ·rename_i ho
   have:=(hs.outer ho).2.2;omega
  ·omega
 have bA:s.outer=M->QP C ((s.locals.length:Int)-P.E.args)=a1:=fun h=>by rw[<-ht];unfold oV;rw[Q5 h];exact iw
 have bB:s.outer=I->QP C (s.first+(s.locals.length:Int))=a1:=fun h=>by rw[<-ht];unfold oV;rw[QZ (by simp[h])];exact iw
 have HT:=fh ht;have HX:=fh hx;have cB:=fh d6;have bl:=fh aB;clear cq ht hx d6 aB ct;have ao:ft W (W.alloc (F #[J C s.f,G T.Ac s.chain.length T.cc,G T.Al s.locals.length T.cl,J C s.first,H s.outer,G A2 n2 c2] 253)):=gG;have eb:(W.alloc (F #[J C s.f,G T.Ac s.chain.length T.cc,G T.Al s.locals.length T.cl,J C s.first,H s.outer,G A2 n2 c2] 253)).heap[W.heap.size]?=Z (F #[J C s.f,G T.Ac s.chain.length T.cc,G T.Al s.locals.length T.cl,J C s.first,H s.outer,G A2 n2 c2] 253 (0,0)):=QO W _;obtain⟨ou,co⟩:∃ b,s.outer=b:=⟨_,rfl⟩
 rw[co] at bA bB eb ao |-;have eI:=fh co;clear co;cases ou
 case' false=>
  clear bA;have bB:=bB rfl;go_enter func219,ntmps219;go_upto_region 6 with(fail);obtain⟨gb,aK⟩:∃ gb,W.heap.size=gb:=⟨_,rfl⟩
  rw[aK] at eb |-;have aP:=fh aK;clear aK;generalize W.alloc _=Y at ao eb |-
 case' true=>
  clear bB;have bA:=bA rfl;go_enter func219,ntmps219;go_upto_region 4 with(fail);go_quiet (fail);go_upto_region 6 with(fail);generalize hq:World.drewN (W.alloc _) _=Y;have bK:ft (W.alloc (F #[J C s.f,G T.Ac s.chain.length T.cc,G T.Al s.locals.length T.cl,J C s.first,H M,G A2 n2 c2] 253)) Y:=by rw[<-hq];exact gF
  have ao:=ao.trans bK;have eb:=zj eb bK;clear hq bK;obtain⟨gb,aK⟩:∃ gb,W.heap.size=gb:=⟨_,rfl⟩
  rw[aK] at eb |-;have aP:=fh aK;clear aK
 all_goals
  have aF:=za ao z0
  obtain⟨c0,c1,eK,c3,c4,c5,cf,cl⟩:=mM eb
  have dS:=Ty.up _ hB.chain.read ao
  have d3:=Ty.up _ d4 ao
  rw[cK] at d3
  have hl:=hR.hl
  go_cut [10] from 10 to 56 (fun v wx=>∃(g3:Nat) (B1 B2:X Ri) (d1 d2:Nat) (S1 S2:Q Nat),v=.pointer (Z ⟨g3,0,D⟩)/\J3 zr iH 3 9 Y wx (G B1 (s.chain.length+1) d1) (G B2 (zq P.E.p (i:Int)).length d2) (s.chain++[(k:Int)]) (zq P.E.p (i:Int)) S1 S2 g3 (F #[J C (i:Int),G B1 (s.chain.length+1) d1,G B2 (zq P.E.p (i:Int)).length d2,J C a1,H I,G D 0 0] 253 (0,0))/\Y.heap.size<=g3)
  case first=>
   refine jT (fun w'=>QL w' ⟨gb,1,D⟩=Z (G T.Ac s.chain.length T.cc)/\QL w' ⟨P.g,0,D⟩=Z (G (Z ⟨gp,op,D⟩) P.E.p.length P.c)) 17 (by kernel_rfl) ⟨zc c1,zc aF⟩ (fun hH=>?_);have HJ:=J3.start (T:=zr) (QF:=iH) (e:=3) (f:=9) eb;have HJ:=HJ.fx ((ft.refl _).drew);generalize hYd:Y.drew=Wx at HJ hH |-;clear hYd;refine .tq 0 [17] hH ?_;refine .tq 2 [17] hH ?_;refine .tq 3 [17] hH ?_;refine .tq 5 [17] hH ?_;refine .tq 8 [17] hH ?_;refine .tq 9 [17] hH ?_;refine .tq 10 [17] hH ?_;refine .tq 11 [17] hH ?_;refine .tq 12 [17] hH ?_;refine .tq 14 [17] hH ?_;simp only[List.getElem_toArray,List.getElem_cons_succ,List.getElem_cons_zero,Act.put,Tv,List.set_cons_zero,List.set_cons_succ];show fA _ _ _ _ _ _ (7+1) _ _ _;refine fA.Bo [1,4,6,7,13,15,16] (fun a0 a2 a w=>∃ b1 b4 b6 b7 a3 a5 a6,a2=#[M,b1,M,M,b4,M,b6,b7,M,M,M,M,M,a3,M,a5,a6,I]/\∃(va vb:Value) (xa:Q Int) (xb:Q N) (Sa Sb:Q Nat) (go:Nat) (oo:Obj) (ge:Nat) (au av aw ax ay ak aj:Value),a=((((((a0.put (Z 42) au).put (Z 45) av).put (Z 47) aw).put (Z 48) ax).put (Z 54) ay).put (Z 56) ak).put (Z 10) aj/\J3 zr iH 3 9 Y w va vb xa xb Sa Sb go oo/\(b4=M->b1=M)/\(b7=M->b4=M)/\(b1=M->b4=I->au=va/\xa = [])/\(b4=M->b7=I->av=va/\xa=s.chain)/\(b7=M->ax=va/\xa=s.chain++[(k:Int)])/\(b6=M->b7=I->aw=G (Z ⟨ge,0,D⟩) 1 1/\w.heap[ge]?=Z (F #[J C (k:Int)] 3 (0,0))/\ge∉Sa)/\(a3=M->ay=vb/\xb=zq P.E.p (i:Int))/\(a5=M->b7=M/\a3=M/\ak=.agg #[J C (i:Int),va,vb,J C a1,H I,G D 0 0])/\(a6=M->aj=.pointer (Z ⟨go,0,D⟩)/\oo=F #[J C 0,G D 0 0,G D 0 0,J C 0,H I,G D 0 0] 253 (0,0)/\Y.heap.size<=go)) (fun l=>(if !l.getD 1 M then [1] else [])++(if l.getD 1 M && !l.getD 4 M then [4] else [])++(if !l.getD 6 M then [6] else [])++(if l.getD 4 M && (l.getD 6 M && !l.getD 7 M) then [7] else [])++(if l.getD 7 M && !l.getD 13 M then [13] else [])++(if l.getD 7 M && (l.getD 13 M && !l.getD 15 M) then [15] else [])++(if !l.getD 16 M then [16] else [])) 1 7 (by decide) ?_ ?_ ?_ (by kernel_rfl) ?_
   ·intro a2 a w hI cr
    obtain⟨b1,b4,b6,b7,a3,a5,a6,rfl,_⟩:=hI;cases b1 <;> cases b4 <;> cases b6 <;> cases b7 <;> cases a3 <;> cases a5 <;> cases a6
    all_goals first | exact⟨by kernel_rfl,by decide,by decide⟩ | (exfalso;revert cr;decide)
   ·intro a2 a w j hI hj
    obtain⟨b1,b4,b6,b7,a3,a5,a6,rfl,va,vb,xa,xb,Sa,Sb,go,oo,ge,au,av,aw,ax,ay,ak,aj,ha,HJ,k4,k7,f1,f4,f7,f6,al,am,an⟩:=hI;simp only[Act.put,Tv,List.set_cons_zero,List.set_cons_succ] at ha;subst ha;have hj:(b1=I/\j=1)∨(b1=M/\b4=I/\j=4)∨(b6=I/\j=6)∨(b4=M/\b6=M/\b7=I/\j=7)∨(b7=M/\a3=I/\j=13)∨(b7=M/\a3=M/\a5=I/\j=15)∨(a6=I/\j=16):=by simpa[UU] using hj
    have ad:=QQ (HJ.cell c1) (HJ.cell aF);obtain⟨A9,c9,rfl⟩:=AB HJ.ha;obtain⟨B9,d9,rfl⟩:=AB HJ.hb;rcases hj with⟨aU,rfl⟩ | ⟨aU,aJ,rfl⟩ | ⟨cN,rfl⟩ | ⟨aJ,cN,aC,rfl⟩ | ⟨aC,ap,rfl⟩ | ⟨aC,ap,dN,rfl⟩ | ⟨dO,rfl⟩
    ·refine vN rfl (fun K hK=>?_)
     go_simp;have HK:=HJ.kY;have ad:=QQ (HK.cell c1) (HK.cell aF);exact hK.out _ _ ⟨fun _=>ad,M,b4,b6,b7,a3,a5,a6,rfl,_,_,_,_,_,_,_,_,ge,(G (Z ⟨w.heap.size,0,D⟩) 0 0),av,aw,ax,ay,ak,aj,by simp only[List.getElem_toArray,List.getElem_cons_succ,List.getElem_cons_zero,Act.put,Tv,List.set_cons_zero,List.set_cons_succ],HK,(fun _=>rfl),k7,(fun _ _=>⟨rfl,rfl⟩),(fun h=>absurd (k4 h) (by rw[aU];decide)),(fun h=>absurd (k4 (k7 h)) (by rw[aU];decide)),(fun h h7=>by obtain⟨e1,e2,e3⟩:=f6 h h7;have h9:=(blt e2);exact⟨e1,zj e2 ((ft.refl _).alloc _),(by simp;omega)⟩),al,(fun h=>absurd (k4 (k7 (am h).1)) (by rw[aU];decide)),an⟩
    ·obtain⟨rfl,rfl⟩:=f1 aU aJ
     refine vN rfl (fun K hK=>?_);refine zK (L:=s.chain.length) rfl (.tmp 42) (.tmp 44) mg zD HJ.ha (Ty.up _ dS HJ.hg) rfl rfl rfl (Rk _).symm (by omega) (by omega) ?_;intro B1 d1 W1 S1 aa bq ac;rw[RC] at bq;have HK:=HJ.oC aa bq ac;have ad:=QQ (HK.cell c1) (HK.cell aF);exact hK.out _ _ ⟨fun _=>ad,b1,M,b6,b7,a3,a5,a6,rfl,_,_,_,_,_,_,_,_,ge,(G A9 ([]:Q Int).length c9),(G B1 s.chain.length d1),aw,ax,ay,ak,aj,by simp only[List.getElem_toArray,List.getElem_cons_succ,List.getElem_cons_zero,Act.put,Tv,List.set_cons_zero,List.set_cons_succ],HK,(fun _=>aU),(fun _=>rfl),(fun _ h=>by cases h),(fun _ _=>⟨rfl,rfl⟩),(fun h=>absurd (k7 h) (by rw[aJ];decide)),(fun h h7=>by obtain⟨e1,e2,e3⟩:=f6 h h7;have h9:=(blt e2);exact⟨e1,(aa.block ge h9 e3).trans e2,(fun hm=>(ac ge hm).elim e3 (fun h=>by omega))⟩),al,(fun h=>absurd (k7 (am h).1) (by rw[aJ];decide)),an⟩
    ·refine vN rfl (fun K hK=>?_)
     go_simp;have HK:=HJ.fx ((ft.refl w).alloc (F #[J C (k:Int)] 3));have ad:=QQ (HK.cell c1) (HK.cell aF);exact hK.out _ _ ⟨fun _=>ad,b1,b4,M,b7,a3,a5,a6,rfl,_,_,_,_,_,_,_,_,_,au,av,(G (Z ⟨w.heap.size,0,D⟩) 1 1),ax,ay,ak,aj,by simp only[List.getElem_toArray,List.getElem_cons_succ,List.getElem_cons_zero,Act.put,Tv,List.set_cons_zero,List.set_cons_succ],HK,k4,k7,f1,f4,f7,(fun _ _=>⟨rfl,QO _ _,fun hm=>by have:=HJ.ha.lt _ hm;omega⟩),al,am,an⟩
    ·obtain⟨rfl,rfl⟩:=f4 aJ aC
     obtain⟨rfl,e2,e3⟩:=f6 cN aC;refine vN rfl (fun K hK=>?_);have bc:zr.R w w.heap.size [J C (k:Int)] (k:Int):=⟨rfl,by omega,by omega⟩
     refine zW (L:=s.chain.length+1) rfl (.tmp 45) (.tmp 47) mg zD HJ.ha bc rfl rfl rfl (by intro j u hu;rw[RV w ge _ _ _ (0,0) e2];simpa using hu) rfl (by omega) (by omega) ?_;intro B1 d1 W1 S1 aa bq ac;have HK:=HJ.oC aa bq ac;have ad:=QQ (HK.cell c1) (HK.cell aF);exact hK.out _ _ ⟨fun _=>ad,b1,b4,b6,M,a3,a5,a6,rfl,_,_,_,_,_,_,_,_,ge,au,(G A9 s.chain.length c9),(G (Z ⟨ge,0,D⟩) 1 1),(G B1 (s.chain.length+1) d1),ay,ak,aj,by simp only[List.getElem_toArray,List.getElem_cons_succ,List.getElem_cons_zero,Act.put,Tv,List.set_cons_zero,List.set_cons_succ],HK,k4,(fun _=>aJ),(fun _ h=>by rw[aJ] at h;cases h),(fun _ h=>by cases h),(fun _=>⟨rfl,rfl⟩),(fun _ h=>by cases h),al,(fun h=>absurd ((am h).1) (by rw[aC];decide)),an⟩
    ·clear aC
     refine vN rfl (fun K hK=>?_);go_simp;go_at_call 191
     with_reducible refine(zh0 (Ty.up _ d3 HJ.hg) hl hR.hs).mono ?_
     rintro e v ⟨A8,c8,S8,rfl,dC,aI,cS⟩;have HK:=HJ.xt cS dC aI;have ad:=QQ (HK.cell c1) (HK.cell aF);exact hK.out _ _ ⟨fun _=>ad,b1,b4,b6,b7,M,a5,a6,rfl,_,_,_,_,_,_,_,_,ge,au,av,aw,ax,(G A8 (zq P.E.p (i:Int)).length c8),ak,aj,by simp only[List.getElem_toArray,List.getElem_cons_succ,List.getElem_cons_zero,Act.put,Tv,List.set_cons_zero,List.set_cons_succ],HK,k4,k7,f1,f4,f7,(fun h h7=>by obtain⟨e1,e2,e3⟩:=f6 h h7;have h9:=(blt e2);exact⟨e1,zj e2 cS,e3⟩),(fun _=>⟨rfl,rfl⟩),(fun h=>absurd ((am h).2.1) (by rw[ap];decide)),an⟩
    ·obtain⟨rfl,rfl⟩:=f7 aC
     obtain⟨rfl,rfl⟩:=al ap;refine vN rfl (fun K hK=>?_);go_simp;exact hK.out _ _ ⟨fun _=>ad,b1,b4,b6,b7,a3,M,a6,rfl,_,_,_,_,_,_,_,_,ge,au,av,aw,(G A9 (s.chain.length+1) c9),(G B9 (zq P.E.p (i:Int)).length d9),(.agg #[J C (i:Int),G A9 (s.chain.length+1) c9,G B9 (zq P.E.p (i:Int)).length d9,J C a1,H I,G D 0 0]),aj,by simp only[List.getElem_toArray,List.getElem_cons_succ,List.getElem_cons_zero,Act.put,Tv,List.set_cons_zero,List.set_cons_succ],HJ,k4,k7,f1,f4,(fun _=>⟨by simp,rfl⟩),f6,(fun _=>⟨rfl,rfl⟩),(fun _=>⟨aC,ap,by simp⟩),an⟩
    ·refine vN rfl (fun K hK=>?_)
     go_simp;have HK:=HJ.kp (cs:=#[J C 0,G D 0 0,G D 0 0,J C 0,H I,G D 0 0]) (t:=253);have ad:=QQ (HK.cell c1) (HK.cell aF);have dL:=HJ.hg.size;exact hK.out _ _ ⟨fun _=>ad,b1,b4,b6,b7,a3,a5,M,rfl,_,_,_,_,_,_,_,_,ge,au,av,aw,ax,ay,ak,(.pointer (Z ⟨w.heap.size,0,D⟩)),by simp only[List.getElem_toArray,List.getElem_cons_succ,List.getElem_cons_zero,Act.put,Tv,List.set_cons_zero,List.set_cons_succ],HK,k4,k7,f1,f4,f7,(fun h h7=>by obtain⟨e1,e2,e3⟩:=f6 h h7;have h9:=(blt e2);exact⟨e1,zj e2 ((ft.refl _).alloc _),e3⟩),al,am,(fun _=>⟨rfl,rfl,dL⟩)⟩
   ·intro a2 a w hI cr
    obtain⟨b1,b4,b6,b7,a3,a5,a6,rfl,va,vb,xa,xb,Sa,Sb,go,oo,ge,au,av,aw,ax,ay,ak,aj,ha,HJ,k4,k7,f1,f4,f7,f6,al,am,an⟩:=hI;simp only[Act.put,Tv,List.set_cons_zero,List.set_cons_succ] at ha;subst ha
    have bT:b7=M/\a3=M/\a5=M/\a6=M/\b1=M/\b4=M/\b6=M:=by
     revert cr;clear k4 k7 f1 f4 f7 f6 al am an HJ;cases b1 <;> cases b4 <;> cases b6 <;> cases b7 <;> cases a3 <;> cases a5 <;> cases a6 <;> decide
    obtain⟨rfl,rfl,rfl,rfl,rfl,rfl,rfl⟩:=bT;obtain⟨rfl,rfl⟩:=f7 rfl;obtain⟨rfl,rfl⟩:=al rfl;obtain⟨_,_,rfl⟩:=am rfl;obtain⟨rfl,rfl,cd⟩:=an rfl;obtain⟨A9,c9,rfl⟩:=AB HJ.ha;obtain⟨B9,d9,rfl⟩:=AB HJ.hb;simp only[QR,Rc,Ru,Rk] at HJ |-;obtain⟨o0,o1,o2,o3,o4,o5,of,ol⟩:=mM HJ.ho;refine fA.last (by kernel_rfl) rfl (by kernel_rfl) (fun K hK=>?_);go_simp;refine hK.out _ _ ?_;clear hK
    try simp only[lay]
    have h2:=I0 HJ.ho (J C (i:Int)) (G A9 (s.chain.length+1) c9) (G B9 (zq P.E.p (i:Int)).length d9) (J C a1) (H I) (G D 0 0);have HJ:=HJ.store h2.2 h2.1 cd;go_wp2_with(fail);go_meet;exact⟨_,A9,B9,c9,d9,Sa,Sb,rfl,HJ,cd⟩
   ·exact⟨I,I,I,I,I,I,I,rfl,_,_,_,_,_,_,_,_,0,TE,TE,TE,TE,TE,TE,TE,by simp only[Act.put,Tv,List.set_cons_zero,List.set_cons_succ],HJ,(fun h=>by cases h),(fun h=>by cases h),(fun h=>by cases h),(fun h=>by cases h),(fun h=>by cases h),(fun h=>by cases h),(fun h=>by cases h),(fun h=>by cases h),(fun h=>by cases h)⟩
  case rest=>
   obtain⟨g3,B1,B2,d1,d2,S1,S2,rfl,HJ,cd⟩:=hcut;have b2:=ao.trans HJ.hg;have bJ:=hB.fx b2;obtain⟨QJ,hX⟩:∃ QJ:fG,QJ=kD P.E (i:Int) k s:=⟨_,rfl⟩
   have a4:QJ=⟨(i:Int),s.chain++[(k:Int)],zq P.E.p (i:Int),a1,I,[]⟩:=by rw[hX];unfold kD;rw[HT.out]
   have c6:isFun P.E.p (i:Int):=⟨i,rfl,x',HX.out,cB.out⟩
   have bd:0<=(k:Int)/\(k:Int)<P.E.p.length:=⟨by omega,by omega⟩
   have bt:iu P.E QJ:=by rw[hX];exact AT hR.env hs c6 bd (by omega)
   have a9:=c6.parts hR.env;rw[bl.out] at a9 h0;obtain⟨na,bg⟩:∃ n,x'.fM.length=n:=⟨_,rfl⟩
   obtain⟨nl,bx⟩:∃ n,(zq P.E.p (i:Int)).length=n:=⟨_,rfl⟩
   rw[bg,bx] at a9;rw[bg] at h0 |-;obtain⟨eY,ep,eZ⟩:=a9;have dT:jN (d+1)<=900:=by unfold jN;omega
   have cE:=zj eb HJ.hg;have aq:gb∉Lm:=fun hm=>by have h8:=aP.out;have:=hB.st.iU.2.2.1 gb hm;omega
   have eQ:=ao.size;have e4:=(blt eb)
   have ah:g3∉Lm:=fun hm=>by have h8:=aP.out;have:=hB.st.iU.2.2.1 g3 hm;omega
   have eX:g3≠gb:=by omega
   have em:gb≠g3:=by omega
   have eO:=hB.st.iU.2.1;have cZ:P.g≠g3:=by have h8:=aP.out;omega
   have ai:∀(W':U) (m':fS) (L':Q Nat) (j:Int),jf P m' (R0++[jZ s T Av cv]) W' L'->(zr.sl 3).R W' W'.heap.size [G T.Ac s.chain.length T.cc] s.chain->(m'.items.length<=100000/\(0<=j/\j<=100)/\(-1000000<=m'.depth/\m'.depth<=1000000))->
     Rh prog 214 #[.pointer (Z ⟨P.g,0,D⟩),.agg #[J C (i:Int),G B1 (s.chain.length+1) d1,G B2 nl d2,J C a1,H I,G D 0 0],J C j,J C (k:Int),G T.Ac s.chain.length T.cc] W' fun r W2=>r=.returned (.tuple #[])/\gC P (mW P.E m' QJ j k s.chain) (R0++[jZ s T Av cv]) W' L' W2:=fun W' m' L' j hS hc hb=>by
    have h9:=zrN (s:=QJ) (i:=j) (line:=(k:Int)) (chain:=s.chain) (Ac:=B1) (cc:=d1) (Al:=B2) (cl:=d2) (nl:=nl) (Av:=D) (nv:=0) (cv:=0) hS hc (by omega) hb.1 hb.2.1 hb.2.2 (by rw[a4];exact⟨by simp only;omega,by simp only;omega⟩) ⟨dZ.1,by omega⟩ ⟨by omega,by omega⟩;rw[a4] at h9 |-;simpa only[QR,Rc,Ru,Rk] using h9
   obtain⟨ms,ck⟩:∃ v,max m.gL (a1+(nl:Int))=v:=⟨_,rfl⟩
   have ek:(if m.gL<a1+(nl:Int) then a1+(nl:Int) else m.gL)=ms:=by rw[<-ck];split <;> omega
   have cX:max m.gL (a1+(nl:Int))=ms:=ck;have f5:QP C (a1+(nl:Int))=a1+(nl:Int):=iw;have de:=fh bJ;have af:=fh HJ;obtain⟨z0,z1,z2,z5,z6,z7,z8,z9,aV,zf,zl⟩:=bJ.st.ij;have br:=HJ.ho;rw[bx] at br;go_upto_region 7 with(fail);refine vI 13 (by kernel_rfl) (by kernel_rfl) (fun wx hgx=>?_);have aS:=de.out.fx hgx;obtain⟨y0,y1,y2,y5,y6,y7,y8,y9,ff,yf,yl⟩:=aS.st.ij;obtain⟨t0,t1,t2,t3,t4,t5,tf,tl⟩:=mM (zj br hgx);clear z0 z1 z2 z5 z6 z7 z8 z9 aV zf zl;simp only[RN,Sd,RT,RZ]
   repeat still_step
   refine Ta ?_;obtain⟨m1,bv⟩:∃ m1,m.ke ms=m1:=⟨_,rfl⟩
   have dp:Hid (gC P m1 (R0++[jZ s T Av cv]) wx Lm (wx.setCell ⟨P.g,7,D⟩ (J C ms))):=fh (by
    rw[<-bv]
    exact(gC.refl aS.st).num rfl (fun _ _ _ _ _ _ _ _ _=>rfl))
   have dm:=fh bv;have bW:=aS.chain;have aW:=fh aS.chain;have b0:=fh (zj br hgx);have bn:=fh (zj cE hgx);have HH:=fh (show m1.items=m.items/\m1.depth=m.depth/\m1.start=m.start/\m1.gL=ms from by rw[<-bv];exact⟨rfl,rfl,rfl,rfl⟩);have f8:QP C ((na:Int)-1)=(na:Int)-1:=iw;have f9:=aS.fx (ft.refl _);have b8:=hB.dc;clear bv bW aS bJ br cE eb;go_wp2_with(fail);go_loopw [11] (fun z wr=>∃(zi:Int) (q:Nat) (mq:fS),z=J C zi/\zi+1=(q:Int)/\q<=na/\Hid (gC P mq (R0++[jZ s T Av cv]) wx Lm wr)/\Hid (qV P.E QJ k s.chain q mq=qV P.E QJ k s.chain na m1)/\Hid (iB P.E mq)/\mq.depth=m.depth-((na-q:Nat):Int)/\mq.items.length<=200+(na-q)) (fun z _=>(Ry z+1).toNat)
   case atStart=>
    have h9:=HH.out;exact⟨(na:Int)-1,na,m1,by go_num,by omega,Q8 _,dp,fh rfl,fh ⟨by rw[h9.1];exact hm.hJ,by rw[h9.1];exact hm.pos⟩,by rw[h9.2.1];simp,by rw[h9.1];omega⟩
   case round=>
    obtain⟨zi,q,mq,rfl,d7,f0,hN,hA,cH,cR,dW⟩:=hrel;have ev:QP C (zi-1)=zi-1:=iw;by_cases hz0:0<=zi
    ·obtain⟨j,rfl⟩:=Rl hz0
     obtain rfl:q=j+1:=by omega
     have e6:(j:Int)≥0:=hz0;obtain⟨L1,ac,a7,aH⟩:=hN.out;have ag:=(aW.out.fJ a7 (fun b hb=>(b8 b hb).1)).read;obtain⟨t0,t1,t2,t3,t4,t5,tf,tl⟩:=mM (pR a7 ah b0.out);obtain⟨u0,u1,u2,u3,u4,u5,uf,ul⟩:=mM (pR a7 aq bn.out);have bU:mq.items.length<=100000/\(0<=(j:Int)/\(j:Int)<=100)/\(-1000000<=mq.depth/\mq.depth<=1000000):=⟨by omega,⟨by omega,by omega⟩,by omega,by omega⟩
     have aO:=xG (n0:=0) (i:=(j:Int)) (line:=(k:Int)) (chain:=s.chain) hR.env bt cH.out ⟨by omega,by omega⟩ ⟨by omega,by omega⟩ bd hs.chain;have aZ:=fh aO;have dz:Hid (qV P.E QJ k s.chain j (mW P.E mq QJ j k s.chain)=qV P.E QJ k s.chain na m1):=fh (by rw[<-hA.out];rfl);clear aO hz0 d7;go_wp2_with(first | (go_at_call 214;(with_reducible refine(ai _ _ _ _ ac ag bU).mono ?_);rintro e w2 ⟨rfl,h2⟩));go_roundw
     case measure=>exact gH
     case rel=>
      have eo:=gC.trans ac a7 aH h2;have h7:=aZ.out.cnt;have h8:=aZ.out.depth;exact⟨(j:Int)-1,j,_,by go_num,by omega,by omega,fh eo,dz,fh aZ.out.ok,by omega,by omega⟩
    ·have e6:¬ (zi≥0):=hz0
     have e7:¬ (0<=zi):=hz0;obtain rfl:q=0:=by omega
     obtain⟨m2,ej⟩:∃ m2,mq=m2:=⟨_,rfl⟩
     have dd:Hid (qV P.E QJ k s.chain na m1=mq):=fh (by rw[<-hA.out];rfl);subst ej;clear hz0 d7 hA ev;go_wp2_with(fail);go_loopw [12] (fun z wi=>∃(j:Nat) (mz:fS),z=J C j/\na<=j/\j<=nl/\Hid (gC P mz (R0++[jZ s T Av cv]) wx Lm wi)/\Hid (sS P.E QJ k s.chain (nl-j) j mz=sS P.E QJ k s.chain (nl-na) na mq)/\Hid (iB P.E mz)/\mz.depth=m.depth-(na:Int)/\mz.items.length<=200+na+2*(j-na)) (fun z _=>nl-(Ry z).toNat)
     case atStart=>exact⟨na,mq,rfl,Q8 _,ep,hN,fh rfl,cH,by rw[cR,Nat.sub_zero],by omega⟩
     case round=>
      obtain⟨j,mz,rfl,eU,eV,cJ,hZ,dG,bu,eS⟩:=hrel;obtain⟨L1,ac,a7,aH⟩:=cJ.out;obtain⟨t0,t1,t2,t3,t4,t5,tf,tl⟩:=mM (pR a7 ah b0.out);by_cases hjl:j<nl
      ·have ee:(j:Int)<(nl:Int):=by omega
       obtain⟨u0,u1,u2,u3,u4,u5,uf,ul⟩:=mM (pR a7 aq bn.out);have ag:=(aW.out.fJ a7 (fun b hb=>(b8 b hb).1)).read;have bH:fD 0:=⟨by omega,by omega⟩
       have bc:fD (k:Int):=⟨by omega,by omega⟩
       have dP : -1000000<=mz.depth/\mz.depth<=1000000:=⟨by omega,by omega⟩
       have bV:mz.items.length<=100000:=by omega
       have cp:s.chain.length<=1000:=by omega
       have bz:=BK (n0:=0) (v:=0) (line:=(k:Int)) (chain:=s.chain) dG.out ⟨by omega,by omega⟩ ⟨by omega,by omega⟩ bd hs.chain;have h7:=bz.cnt;have h8:=bz.depth;have bU:(lZ P.E mz 0 k s.chain).items.length<=100000/\(0<=(j:Int)/\(j:Int)<=100)/\(-1000000<=(lZ P.E mz 0 k s.chain).depth/\(lZ P.E mz 0 k s.chain).depth<=1000000):=⟨by omega,⟨by omega,by omega⟩,by omega,by omega⟩
       have aO:=xG (n0:=0) (i:=(j:Int)) (line:=(k:Int)) (chain:=s.chain) hR.env bt bz.ok ⟨by omega,by omega⟩ ⟨by omega,by omega⟩ bd hs.chain;have h5:=aO.cnt;have h6:=aO.depth;have aZ:=fh aO;have HD:=fh (show (mW P.E (lZ P.E mz 0 k s.chain) QJ j k s.chain).depth=m.depth-(na:Int) from by omega);have HC:=fh (show (mW P.E (lZ P.E mz 0 k s.chain) QJ j k s.chain).items.length<=200+na+2*(j+1-na) from by omega);have dM:Hid (sS P.E QJ k s.chain (nl-(j+1)) (j+1) (mW P.E (lZ P.E mz 0 k s.chain) QJ j k s.chain)=sS P.E QJ k s.chain (nl-na) na mq):=fh (by rw[<-hZ.out,show nl-j=(nl-(j+1))+1 from by omega];rfl);clear aO bz h5 h6 h7 h8;go_wp2_with(first | (go_at_call 211;(with_reducible refine(zlg ac ag cp bV bH dP bc).mono ?_);rintro e w2 ⟨rfl,h2⟩;have H2:=fh h2;obtain⟨L2,cL,bs,dD⟩:=h2;have b5:=((aW.out.fJ a7 (fun b hb=>(b8 b hb).1)).fJ bs (fun b hb=>wI (fun b hb=>(b8 b hb).1) aW.out.lt aH b hb)).read;obtain⟨r0,r1,r2,r3,r4,r5,rf,rl⟩:=mM (pR (a7.then bs aH) ah b0.out);obtain⟨v0,v1,v2,v3,v4,v5,vf,vl⟩:=mM (pR (a7.then bs aH) aq bn.out)) | (go_at_call 214;(with_reducible refine(ai _ _ _ _ cL b5 bU).mono ?_);rintro e w3 ⟨rfl,h3⟩));go_roundw;exact⟨j+1,_,by go_num,by omega,by omega,fh (gC.trans ac a7 aH (gC.trans cL bs dD h3)),dM,fh aZ.out.ok,HD.out,HC.out⟩;exact gH
      ·obtain rfl:j=nl:=by omega
       have ee:¬ ((j:Int)<(j:Int)):=by omega
       obtain⟨m4,bw⟩:∃ m4,qF P.E (i:Int) k s m=m4:=⟨_,rfl⟩
       have hH:m4=if mz.start=M then zB P.E mz 15 0 k s.chain else mz:=by
        have e1:(kD P.E (i:Int) k s)=QJ:=hX.symm;have e2:QJ.locals.length=j:=by rw[a4];exact bx
        rw[<-bw];unfold qF;simp only[e1,e2,bl.out,bg,HT.out,ck,dm.out,dd.out];rw[<-hZ.out,RP];rfl
       have bL:=Ff (n0:=200) hR.env hs c6 bd hk0 (by omega) hm (by rw[bl.out,bg];omega) (by omega);rw[bw,bl.out,bg] at bL;have aQ:=fh bL;have dn:=fh bw;have ag:=(aW.out.fJ a7 (fun b hb=>(b8 b hb).1)).read;obtain⟨u0,u1,u2,u3,u4,u5,uf,ul⟩:=mM (pR a7 aq bn.out);obtain⟨z0,z1,z2,z5,z6,z7,z8,z9,aV,zf,zl⟩:=ac.ij;obtain⟨sb,d5⟩:∃ b,mz.start=b:=⟨_,rfl⟩
       rw[d5] at hH aV;have cp:s.chain.length<=1000:=by omega
       have bV:mz.items.length<=100000:=by omega
       have bc:fD (k:Int):=⟨by omega,by omega⟩
       have dy:fD 15:=⟨by omega,by omega⟩
       have bH:fD 0:=⟨by omega,by omega⟩
       have dY:fD mz.depth:=⟨by omega,by omega⟩
       obtain⟨dB,bX⟩:∃ v,m.depth-(na:Int)=v:=⟨_,rfl⟩
       rw[bX] at bu;rw[bu] at z9;have df:=fh bu;have aX:=fh bX;have dX:0<=dB/\dB<=900:=⟨by omega,by omega⟩
       have cz:=fh hH;clear bL bw d5 bu bX hH h0 cR dW;cases sb
       case' false=>
        have HE:Hid (m4=mz):=fh (by rw[cz.out,QZ (by decide)]);have cA:Hid (gC P m4 (R0++[jZ s T Av cv]) wx Lm wr):=fh (by rw[HE.out];exact cJ.out);obtain⟨w4,rfl⟩:∃ w4,w4=wr:=⟨_,rfl⟩
        go_upto_region 20 with(fail)
       case' true=>
        have HE:Hid (m4=zB P.E mz 15 0 k s.chain):=fh (by rw[cz.out,Q5 rfl]);go_upto_region 20 with(first | (go_at_call 203;(with_reducible refine(zeQ ac ag cp bV dy bH bc dY).mono ?_);rintro e w4 ⟨rfl,h4⟩;have cA:Hid (gC P m4 (R0++[jZ s T Av cv]) wx Lm w4):=fh (by rw[HE.out];exact gC.trans ac a7 aH h4);obtain⟨y9,yf,yl⟩:=h4.c9;replace y9:QL w4 ⟨P.g,9,D⟩=Z (J C mz.depth):=y9;rw[df.out] at y9;clear h4))
       all_goals
        obtain⟨L4,dK,b3,bM⟩:=cA.out
        obtain⟨Ai,ci,Si,As,cs,Ss,bN,rfl⟩:=dK
        have bk:QL w4 ⟨P.g,11,D⟩=Z (G As (R0.length+1) cs):=by
         have h9:=(nr bN.box).2.2.2.2.2.2.2.2.2.2.2.1;simpa only[QR,Rc,Ru,Rk] using h9
        obtain⟨q0,q1,q2,q3,q4,q5,qf,ql⟩:=mM (pR b3 ah b0.out)
        have ae:g3∉Ss:=fun hm=>by
         rcases bM g3 (by simp[hm]) with h | h
         ·exact ah h
         ·have h5:=(blt b0.out);omega
        have eP:R0.length<=2:=by have h5:=hF.len;rw[h5];simp only[QR,Rc,Ru] at hfs;omega
        refine jT (fun w'=>QL w' ⟨P.g,11,D⟩=Z (G As (R0.length+1) cs)/\QL w' ⟨g3,0,D⟩=Z (J C (i:Int))/\QL w' ⟨g3,1,D⟩=Z (G B1 (s.chain.length+1) d1)/\QL w' ⟨g3,2,D⟩=Z (G B2 j d2)/\QL w' ⟨g3,3,D⟩=Z (J C a1)/\QL w' ⟨g3,4,D⟩=Z (H I)/\QL w' ⟨g3,5,D⟩=Z (G D 0 0)) 10 (by kernel_rfl) ⟨zc bk,zc q0,zc q1,zc q2,zc q3,zc q4,zc q5⟩ (fun a8=>?_)
        have bp:ft w4 w4.drew:=(ft.refl _).drew
        have aA:=bN.grow bp
        clear bk q0 q1 q2 q3 q4 q5
        generalize w4.drew=Wd at aA a8 bp |-
        have aI:=a8
        obtain⟨bk,q0,q1,q2,q3,q4,q5⟩:=aI
        refine .tq 0 [10] a8 ?_
        refine .tq 1 [10] a8 ?_
        refine .tq 2 [10] a8 ?_
        refine .tq 3 [10] a8 ?_
        refine .tq 4 [10] a8 ?_
        refine .tq 5 [10] a8 ?_
        refine fA.gQ (i:=6) (by kernel_rfl) rfl (fun K hK=>?_)
        ·go_simp
         have a8:=QQ (zk bk (F #[J C (i:Int),G B1 (s.chain.length+1) d1,G B2 j d2,J C a1,H I,G D 0 0] 253)) (QQ (zk q0 (F #[J C (i:Int),G B1 (s.chain.length+1) d1,G B2 j d2,J C a1,H I,G D 0 0] 253)) (QQ (zk q1 (F #[J C (i:Int),G B1 (s.chain.length+1) d1,G B2 j d2,J C a1,H I,G D 0 0] 253)) (QQ (zk q2 (F #[J C (i:Int),G B1 (s.chain.length+1) d1,G B2 j d2,J C a1,H I,G D 0 0] 253)) (QQ (zk q3 (F #[J C (i:Int),G B1 (s.chain.length+1) d1,G B2 j d2,J C a1,H I,G D 0 0] 253)) (QQ (zk q4 (F #[J C (i:Int),G B1 (s.chain.length+1) d1,G B2 j d2,J C a1,H I,G D 0 0] 253)) (zk q5 (F #[J C (i:Int),G B1 (s.chain.length+1) d1,G B2 j d2,J C a1,H I,G D 0 0] 253)))))));refine hK.out _ _ a8 ?_;clear hK
         try simp only[lay]
         refine fA.gQ (i:=7) (by kernel_rfl) rfl (fun K hK=>?_)
         ·have ab:ft Wd (Wd.alloc (F #[J C (i:Int),G B1 (s.chain.length+1) d1,G B2 j d2,J C a1,H I,G D 0 0] 253)):=(ft.refl _).alloc _
          have dJ:(mY 6).R Wd Wd.heap.size [J C (i:Int),G B1 (s.chain.length+1) d1,G B2 j d2,J C a1,H I,G D 0 0] [J C (i:Int),G B1 (s.chain.length+1) d1,G B2 j d2,J C a1,H I,G D 0 0]:=⟨rfl,rfl,by intro u hu;simp at hu;rcases hu with rfl | rfl | rfl | rfl | rfl | rfl <;> rfl⟩
          refine zW (L:=R0.length+1+1) rfl (.tmp 120) (.tmp 122) Ii (CR 6) (aA.Bp.fx ab) dJ rfl rfl rfl (by intro j u hu;simpa[go_sem] using hu) rfl (by omega) (by omega) ?_;intro A7 c7 W7 S7 aa cF cM;have a8:=QQ (zz bk ab aa aA.gn.2) (QQ (zz q0 ab aa ae) (QQ (zz q1 ab aa ae) (QQ (zz q2 ab aa ae) (QQ (zz q3 ab aa ae) (QQ (zz q4 ab aa ae) (zz q5 ab aa ae))))));have cO:=(aa.block P.g (R5.1 (aA.grow ab).box).1 aA.gn.2).trans (aA.grow ab).box;obtain⟨_,_,_,_,_,_,_,_,_,_,_,_,_,zf,zl⟩:=nr cO;clear cO;refine hK.out _ _ a8 ?_;clear hK
          try simp only[lay]
          refine .tq 8 [9,10] a8 ?_;refine .tq 9 [10] a8 ?_;refine fA.last (by kernel_rfl) rfl (by kernel_rfl) (fun K hK=>?_);go_simp;refine hK.out _ _ ?_;clear hK
          try simp only[lay]
          have az:=(aA.grow ab).scopes (rows':=(R0++[jZ s T Av cv])++[([J C (i:Int),G B1 (s.chain.length+1) d1,G B2 j d2,J C a1,H I,G D 0 0]:Q Value)]) (A':=A7) (c':=c7) aa (by simpa using cF) cM;have be:((R0++[jZ s T Av cv])++[([J C (i:Int),G B1 (s.chain.length+1) d1,G B2 j d2,J C a1,H I,G D 0 0]:Q Value)]).length=R0.length+1+1:=by simp
          have ew:([J C (i:Int),G B1 (s.chain.length+1) d1,G B2 j d2,J C a1,H I,G D 0 0]:Q Value)=jZ QJ ⟨B1,d1,S1,B2,d2,S2⟩ D 0:=by rw[a4];unfold jZ;simp[bx]
          rw[be] at az;generalize W7.setCell _ _=w5 at az |-;obtain⟨bI,bO⟩:=az;rw[ew] at bI;have cn:fw (P.g::(Si++Ss)) w4 w5:=((bp.trans ab).only _).trans bO
          have cV:∀ b∈P.g::(Si++S7),b∈P.g::(Si++Ss)∨w4.heap.size<=b:=fun b hb=>by
           rcases Rp.1 hb with h | hb
           ·exact .inl (by simp[h])
           ·rcases Q7.1 hb with hb | hb
            ·exact .inl (by simp[hb])
            ·rcases cM b hb with h | h
             ·exact .inl (by simp[h])
             ·have h5:=(bp.trans ab).size;exact .inr (by omega)
          have eR:=(af.out.hg.trans hgx).size
          have aL:∀ b,Y.heap.size<=b->b<wx.heap.size->b∉P.g::(Si++Ss):=fun b h5 h6 hm=>by
           rcases bM b hm with h | h
           ·have h8:=aP.out;have:=hB.st.iU.2.2.1 b h;omega
           ·omega
          have aE:∀ b,Y.heap.size<=b->b<wx.heap.size->b∉Lm:=fun b h5 h6 hm=>by have h8:=aP.out;have:=hB.st.iU.2.2.1 b hm;omega
          have aM:=(af.out.ha.fx hgx).lt;have aN:=(af.out.hb.fx hgx).lt;have dQ:=(((af.out.ha.fx hgx).fJ b3 (fun b hb=>aE b (af.out.la b hb) (aM b hb))).fJ cn (fun b hb=>aL b (af.out.la b hb) (aM b hb)))
          have dR:=(((af.out.hb.fx hgx).fJ b3 (fun b hb=>aE b (af.out.lb b hb) (aN b hb))).fJ cn (fun b hb=>aL b (af.out.lb b hb) (aN b hb)))
          have eu:=b3.size
          have cQ:∀ b,Y.heap.size<=b->b<wx.heap.size->b∉P.g::(Si++S7):=fun b h5 h6 hm=>by
           rcases cV b hm with h | h
           ·exact aL b h5 h6 h
           ·omega
          have bS:ko P ⟨B1,d1,S1,B2,d2,S2⟩ m4 (R0++[jZ s T Av cv]) QJ w5 D 0 [] (P.g::(Si++S7)):=⟨⟨Ai,ci,Si,A7,c7,S7,bI,rfl⟩,by rw[a4];simpa using dQ,by rw[a4];simpa using dR,by rw[a4];exact Has.nil _ _ _,fun b hb=>⟨cQ b (af.out.la b hb) (aM b hb),by simp⟩,fun b hb=>⟨cQ b (af.out.lb b hb) (aN b hb),by simp⟩,by simp,by simp⟩
          obtain⟨e5,bY,_,_⟩:=hR.env.pc.body i x' HX.out cB.out;have bb:=aQ.out;have aD:=hLW ⟨B1,d1,S1,B2,d2,S2⟩ m4 (R0++[jZ s T Av cv]) QJ w5 ((P.g::(Si++S7))++[]) (fs0++[s.f]) i e5 ⟨D,0,[],_,bS,rfl⟩ (hF.snoc s T Av cv) (by simp;omega) bt (by rw[a4]) (by rw[QR,hfs,a4];simp) (by rw[a4];simp;omega) bb.ok (by have h5:=bb.cnt;omega) (by rw[a4]) bY (by have h5:=bb.depth;have h6:=aX.out;omega) (by have h5:=bb.depth;have h6:=aX.out;omega);obtain⟨⟨mL,lv⟩,hr⟩:∃ r,iX P.E (d+1) (fs0++[s.f]++[QJ.f]) QJ m4=r:=⟨_,rfl⟩
          rw[hr] at aD;have HR:=fh hr;have ds:=fh bS;have cy:=fh bY;clear hr bS bI bb bY a8 cF aA;go_upto_region 22 with(first | (go_at_call 204;(with_reducible refine aD.mono ?_);rintro e w6 ⟨rfl,h6⟩));obtain⟨L6,⟨cw,cD,cC,aG,bo,rfl⟩,dH,dE⟩:=h6;obtain⟨dx,eN,da,y0,y1,y2,y3,y4,y5,eA,eB,ez,ey⟩:=bo.row;have cj:(R0++[jZ s T Av cv]).length=R0.length+1:=by simp
          obtain⟨n1,cY⟩:∃ n1,R0.length+1=n1:=⟨_,rfl⟩
          rw[cj,cY] at da y5;replace y5:QL w6 ⟨dx,n1*6+5,D⟩=Z (G cw lv.length cD):=y5;have es:QP C ((n1:Int)+1-1)=(n1:Int):=by rw[Td];exact iw
          have et:QP C (n1:Int)=(n1:Int):=iw;obtain⟨eC,eE⟩:=bo.st.fz;have cx:=fh bo;have dl:=fh (cj.trans cY);clear y0 y1 y2 y3 y4 bo cj;go_quiet (fail);go_upto_region 23 with(fail);refine vI 14 (by kernel_rfl) (by kernel_rfl) (fun w7 hg7=>?_);have ba:ft w6 w7:=ft.trans (b:=_) gF hg7;have az:=cx.out.fx ba;obtain⟨A8,c8,d8,cP,bh,aI,bP⟩:=az.st.pop;rw[dl.out] at d8 bh aI bP cP;obtain⟨fb,fe⟩:=az.st.fz;have bD:=fh az;have bG:=fh aI;have bE:=fh bP;clear da y5 eA eB ez ey eC eE az aI bP;simp only[RN,Sd,RT,RZ]
          repeat still_step
          refine Ta ?_;have bF:=fh (show fw aG w7 (w7.setCell ⟨P.g,11,D⟩ (G A8 n1 c8)) from bE.out);have dk:=fh ((Cq hR.env d) (fs0++[s.f]++[QJ.f]) QJ m4 i e5 bt (by rw[a4]) (by rw[QR,hfs,a4];simp) (by rw[a4];simp;omega) aQ.out.ok (by rw[a4]) cy.out (by have h5:=aQ.out.depth;have h6:=aX.out;omega) (by have h5:=aQ.out.depth;have h6:=aX.out;omega));have aR:=fh (bD.out.leaves.fJ bE.out (fun b hb=>bD.out.dv b hb));replace aR:Hid (Has (zr.sl 3) (w7.setCell ⟨P.g,11,D⟩ (G A8 n1 c8)) [G cw lv.length cD] lv cC):=aR
          have ei:lv.length<=9223372036854775807:=by
           obtain⟨A',c',h5,h6,h7,_⟩:=aR.out.read;injection h5 with h5 _
           injection h5 with hA hn hc
           omega
          go_wp2_with(fail);generalize hw8:w7.setCell _ _=w8 at bG bE aR |-;have dt:=fh hw8;clear hw8 d8 cP bh;obtain⟨nv,d0⟩:∃ n,mL.items.length=n:=⟨_,rfl⟩
          have bf:=dk.out;rw[HR.out] at bf;have en:nv<=100000:=by have h5:=bf.1.cnt;have h6:=aQ.out.cnt;have h7:=cy.out.len;have h8:iO d<=1000:=(by unfold iO;omega);simp only at h5;omega
          have di:Hid (∀ q∈lv,gU mL.items q):=fh bf.2;have dF:=fh bf.1.ok;have bm:=fh d0;have cm:fD (nv:Int):=⟨by omega,by omega⟩
          clear bf d0;go_loopw [15] (fun z wi=>∃(q:Nat),z=J C q/\q<=lv.length/\Hid (gC P (mL.iK (pN mL.items (lv.take q) nv)) (R0++[jZ s T Av cv]) w8 aG wi)) (fun z _=>lv.length-(Ry z).toNat)
          case atStart=>exact⟨0,rfl,QX _,fh (gC.refl bG.out)⟩
          case round=>
           obtain⟨q,rfl,hq,cI⟩:=hrel;obtain⟨Lq,aT,bQ,cG⟩:=cI.out;have b9:∀ b∈cC,b∉aG:=bD.out.dv;by_cases hql:q<lv.length
           ·have er:(q:Int)<(lv.length:Int):=by omega
            have bi:lv[q]?=Z lv[q]:=QW hql;generalize lv[q]=jv at bi;obtain⟨gl,el,eJ,dA,ea,ca,_,_,_,dI,e0,dV,_,_⟩:=qt (aR.out.fJ bQ b9).1 (aR.out.fJ bQ b9).2 bi;obtain⟨rfl,_,_,rfl⟩:=dI;have yl:=dV 0 _ rfl;rw[show q*zr.size+0=q from by show q*1+0=q;omega] at yl;have hP:=Ka (l:=mL.items) (v:=(nv:Int)) bi;obtain⟨cU,ar⟩:=yJ (lv.take q) mL.items nv;have cT:=cU.jump jv (di.out jv (Q9 bi));obtain⟨l,cW⟩:∃ l,pN mL.items (lv.take q) nv=l:=⟨_,rfl⟩
            rw[cW] at hP aT ar cT;obtain⟨jn,xi,cg,ch,_⟩:=cT;have eW:jn<nv:=by have h5:=(QM.1 ch).1;rw[ar,bm.out] at h5;exact h5
            have ef:(jn:Int)<(nv:Int):=by omega
            rw[cg] at yl;have dr:=fh aT;have dj:=fh ch;have HP:=fh hP;have dh:=fh cg;have aY:=fh ar;obtain⟨db,dw,bC⟩:=aT.sr;replace bC:_=Z (G db l.length dw):=bC;rw[aY.out,bm.out] at bC;obtain⟨eD,eF⟩:=aT.fz;subst dA;clear hP aT ch cU ar cg cW bi;go_upto_region 27 with(fail);refine vI 16 (by kernel_rfl) (by kernel_rfl) (fun wy hgy=>?_);have bR:=dr.out.fx hgy;obtain⟨gi,du,cu,fd,_,fc,fa,bj⟩:=bR.arg (m:=mL.iK l) dj.out;replace cu:QL wy ⟨P.g,10,D⟩=Z (G (Z ⟨gi,0,D⟩) l.length du):=cu;rw[aY.out,bm.out] at cu;obtain⟨xf,xl⟩:=bR.fz;have fg:=za hgy yl;obtain⟨p1,p2⟩:=bj nv cm
            have dq:Hid (gC P (mL.iK (pN mL.items (lv.take (q+1)) nv)) (R0++[jZ s T Av cv]) w8 aG (wy.setCell ⟨gi,jn*7+1,D⟩ (J C (nv:Int)))):=fh (by
             rw[HP.out,dh.out,Ra]
             exact⟨Lq,p1,(bQ.trans (hgy.only aG)).then p2 cG,cG⟩)
            clear bC yl eD eF bR bj p1 p2 ca e0;simp only[RN,Sd,RT,RZ]
            repeat still_step
            refine Ta ?_;go_wp2_with(fail);go_roundw;exact⟨q+1,by go_num,by omega,dq⟩;exact gH
           ·obtain rfl:q=lv.length:=by omega
            have er:¬ ((lv.length:Int)<(lv.length:Int)):=by omega
            have f3:QP C (dB+1)=dB+1:=iw;obtain⟨z0,z1,z2,z5,z6,z7,z8,z9,aV,zf,zl⟩:=aT.ij;have k9:Hid (gC P ((mL.iK (pN mL.items lv nv)).gw (dB+1)) (R0++[jZ s T Av cv]) w8 aG (RQ _ ⟨P.g,9,D⟩ (J C (dB+1)))):=fh (by have h9:=cI.out;rw[RX] at h9;exact h9.num rfl (fun _ _ _ _ _ _ _ _ _=>rfl))
            have dg:Hid (jL P.E (iX P.E (d+1)) (fs0++[s.f]) k s (i:Int) m=(mL.iK (pN mL.items lv nv)).gw (dB+1)):=fh (by
             unfold jL;simp only[dn.out,hX.symm];have e9:=HR.out;have e8:QJ.f=(i:Int):=by rw[a4]
             rw[e8] at e9;rw[e9,aQ.out.depth];simp only[bm.out]
             rw[show m.depth + -(na:Int)=dB from by have h6:=aX.out;omega])
            clear z0 z1 z2 z5 z6 z7 z8 aV;go_wp2_with(fail);have h6:∀ b∈aG,b∈(P.g::(Si++S7))++[]∨w5.heap.size<=b:=fun b hb=>dE b (Rm _ hb);have j8:=gC.trans bG.out (by rw[<-dt.out];exact bF.out) (fun b hb=>.inl hb) k9.out;have j6:=gC.from ba j8;have j5:=gC.trans cx.out.st dH h6 j6;rw[SC] at j5;have j4:=gC.trans ds.out.st cn cV j5;have jx:=gC.trans (⟨Ai,ci,Si,As,cs,Ss,bN,rfl⟩:jf P m4 (R0++[jZ s T Av cv]) w4 (P.g::(Si++Ss))) b3 bM j4;have jW:=gC.from (b2.trans hgx) jx;exact Rz (v:=.tuple #[]) (by simp[Rd,results219,go_sem]) rfl ⟨rfl,by rw[dg.out];exact hB.next jW⟩
end Go.Proofs.YthgbglbaemelhaaGreat
