/-
  PART.
-/
import Derived.Test.YthgbglbaemelhaaGreatM14LawThreadsApart
set_option linter.unusedVariables false
set_option linter.unusedSimpArgs false
set_option maxRecDepth 100000
set_option maxHeartbeats 8000000
namespace Go.Proofs.YthgbglbaemelhaaGreat
open Value renaming slice->G,int->J,bool->H
open IntKind renaming i64->Z,wrap->Rg
open Option renaming none->C,some->D
open Obj renaming cells->F
open Bool renaming false->I,true->M
open Go renaming World->U,results->Rv,Calls->RD,Addr->RJ,TypeId->R5,yielded->Th,undef->Ug
open World renaming cell?->Rb,frozen?->Rx,setCell->R6
open _root_.Int renaming toNat_natCast->Ry
open List renaming length_cons->RA,length_nil->RR,nil_append->RY,take_succ_cons->RZ,take_zero->SH
open RowKit renaming intOf->RS
open Region renaming wanted->RV,ready->Sn,Mode->Ub,noSelect->TZ,free->Wu
open Tryz
open Go.RowKit
variable {Ai As:X RJ}{L Si Ss:Q Nat}{P:jt}{R0 rows:Q (Q Value)}{T:iM}{W W':U}{ci cs k:Nat}{e:R5}{m:fT}{r:Q Value}
theorem jl.ir (h:jl P m rows W L) :
  Rb W ⟨P.g,0,C⟩=D (G P.A P.E.p.length P.c)/\Rb W ⟨P.g,1,C⟩=D (J Z P.b.M2)/\Rb W ⟨P.g,2,C⟩=D (J Z P.E.inl)/\Rb W ⟨P.g,5,C⟩=D (H P.E.gY)/\Rb W ⟨P.g,6,C⟩=D (J Z P.E.ww)/\Rb W ⟨P.g,7,C⟩=D (J Z m.gO)/\Rb W ⟨P.g,8,C⟩=D (J Z P.E.args)/\Rb W ⟨P.g,9,C⟩=D (J Z m.jp)/\Rb W ⟨P.g,12,C⟩=D (H m.start)/\(∀ j,Rx W ⟨P.g,j,C⟩=I)/\P.g<W.heap.size:=by
 obtain⟨Ai,ci,As,cs,z0,z1,z2,z5,z6,z7,z8,z9,a1,a2,a0,zf,zl⟩:=h.cells;exact⟨z0,z1,z2,z5,z6,z7,z8,z9,a0,zf,zl⟩
theorem jl.sU (h:jl P m rows W L):∃ Ai ci,Rb W ⟨P.g,10,C⟩=D (G Ai m.pi.length ci):=by
 obtain⟨Ai,ci,As,cs,z0,z1,z2,z5,z6,z7,z8,z9,a0,a1,a2,zf,zl⟩:=h.cells;exact⟨Ai,ci,a0⟩
theorem gC.c9 (h:gC P m rows W L W'):Rb W' ⟨P.g,9,C⟩=D (J Z m.jp)/\(∀ j,Rx W' ⟨P.g,j,C⟩=I)/\P.g<W'.heap.size:=by
 obtain⟨L',h1,_⟩:=h;obtain⟨z0,z1,z2,z5,z6,z7,z8,z9,a0,zf,zl⟩:=h1.ir;exact⟨z9,zf,zl⟩
theorem ko.rowAt {s:fH} {Av:X RJ} {cv:Nat} {Sv Lm:Q Nat} {gs n:Nat} (h:ko P T m R0 s W Av cv Sv Lm)(hz:Rb W ⟨P.g,11,C⟩=D (G (D ⟨gs,0,C⟩) n cs)):(∀ j,Rx W ⟨gs,j,C⟩=I)/\gs≠P.g:=by
 obtain⟨a4,a3,a2,_,_,_,_,_,_,a5,a1,a0,_⟩:=h.row;rw[a2] at hz;simp only[RT,SY,U7] at hz;obtain⟨⟨rfl,_⟩,_⟩:=hz;exact⟨a0,a1⟩
def fH.wl (s:fH)(lv:Q Int):fH:=⟨s.f,s.io,s.un,s.first,s.UV,lv⟩
theorem vv {g:Prop} (f:g:=by
  have HT:=fh (gg.from hWx HN.out)
  exact RI (v:=.tuple #[]) (by simp[Rv,results212,go_sem]) rfl ⟨rfl,by rw[HQ.out];exact HT.out.num rfl (fun _ _ _ _ _ _ _ _ _=>rfl)⟩):g:=f
theorem zwm {s:fH} {k:Int} {last:Bool} {Q6:Q Int} {Q9:Q (Int × Int)} (h:nN P T m R0 s W L)(he:gR P.E)(hcl:s.io.length<=1000)(hln:m.pi.length<=100000)(hlv:s.ut.length<=100000)(hd : -1000000<=m.jp/\m.jp<=1000000)(hk:fE k)(hn:R0.length<=100) :
  RD prog 212 #[.pointer (D ⟨P.g,0,C⟩),J Z k,H last] W fun r W'=>r=.returned (.tuple #[])/\gg P T (kQ P.E s k last ⟨m,s.ut,Q6,Q9⟩).m R0 (s.wl (kQ P.E s k last ⟨m,s.ut,Q6,Q9⟩).ut) W L W':=by
 obtain⟨Av,cv,Sv,Lm,hB,rfl⟩:=h;obtain⟨gs,cs,ae,s0,s1,s2,s3,s4,s5,sl,sn,sf,sL⟩:=hB.row;obtain⟨z0,z1,z2,z5,z6,z7,z8,z9,am,zf,zl⟩:=hB.st.ir;have ai:fE m.jp:=⟨K9,K9⟩
 have az:fE 14:=⟨qo,qo⟩
 have aA:fE 16:=⟨qo,qo⟩
 have ay:fE 10:=⟨qo,qo⟩
 have ax:fE 0:=⟨qo,qo⟩
 have ar:=he.args;have ak:=he.ww;have aE:fE P.E.args:=⟨K9,K9⟩
 have aF:fE (P.E.args+16*P.E.ww):=⟨K9,K9⟩
 have aO:Rg Z ((R0.length:Int)+1-1)=(R0.length:Int):=by rw[TB];exact iw
 have aP:Rg Z (m.jp-1)=m.jp-1:=iw;have aQ:Rg Z (16*P.E.ww)=16*P.E.ww:=iw;have aR:Rg Z (P.E.args+16*P.E.ww)=P.E.args+16*P.E.ww:=iw;by_cases hou:s.UV=M
 ·by_cases a4:P.E.gY=M
  ·skip
   have HQ:Hid (kQ P.E s k last ⟨m,s.ut,Q6,Q9⟩=⟨(zI P.E m 14 P.E.args k s.io).gw (m.jp-1),s.ut,Q6,Q9⟩):=fh (by unfold kQ;rw[Rs hou];rw[Rs a4];rfl);rw[a4] at z5;rw[hou] at s4;clear a4 hou;go_enter func212,ntmps212;go_upto_region 0 with(fail);go_quiet (fail);go_upto_region 7 with(fail);refine wo 10 Fs Fs (fun wx hgx=>?_);have hWx:fu W wx:=fu.trans (b:=_) gF hgx;have a6:=hB.fy hWx;have x1:=za hWx s1;have x6:=za hWx z6;have x8:=za hWx z8;clear z0 z1 z2 z5 z6 z7 z8 z9 am s0 s1 s2 s3 s4 s5 ae;simp only[RZ,SH,Sm,Sx]
   repeat still_step
   refine Tj ?_;go_wp2_with(first | (go_at_call 203;(with_reducible refine(ze6 a6.st a6.io.read hcl hln az aE hk ai).mono ?_);rintro e w2 ⟨rfl,h2⟩;have HN:=fh (a6.next h2);obtain⟨y9,yf,yl⟩:=h2.c9;replace y9:Rb w2 ⟨P.g,9,C⟩=D (J Z m.jp):=y9;clear h2));exact vv
  ·have a4:=U4.2 a4
   have HQ:Hid (kQ P.E s k last ⟨m,s.ut,Q6,Q9⟩=⟨(zI P.E m 16 (P.E.args+16*P.E.ww) k s.io).gw (m.jp-1),s.ut,Q6,Q9⟩):=fh (by unfold kQ;rw[Rs hou];rw[Ro (by simp[a4])];rfl);rw[a4] at z5;rw[hou] at s4;clear a4 hou;go_enter func212,ntmps212;go_upto_region 0 with(fail);go_quiet (fail);go_upto_region 1 with(fail);refine wo 16 Fs Fs (fun wx hgx=>?_);have hWx:fu W wx:=fu.trans (b:=_) gF hgx;have a6:=hB.fy hWx;have x1:=za hWx s1;have x6:=za hWx z6;have x8:=za hWx z8;clear z0 z1 z2 z5 z6 z7 z8 z9 am s0 s1 s2 s3 s4 s5 ae;simp only[RZ,SH,Sm,Sx]
   repeat still_step
   refine Tj ?_;go_wp2_with(first | (go_at_call 203;(with_reducible refine(ze6 a6.st a6.io.read hcl hln aA aF hk ai).mono ?_);rintro e w2 ⟨rfl,h2⟩;have HN:=fh (a6.next h2);obtain⟨y9,yf,yl⟩:=h2.c9;replace y9:Rb w2 ⟨P.g,9,C⟩=D (J Z m.jp):=y9;clear h2));exact vv
 ·have a3:s.UV=I:=U4.2 hou
  cases last with
  | true=>
   have HQ:Hid (kQ P.E s k M ⟨m,s.ut,Q6,Q9⟩=⟨m.gw (m.jp-1),s.ut,Q6,Q9⟩):=fh (by unfold kQ;rw[Ro hou,Rs rfl];rfl);rw[a3] at s4;have HT:=fh (gg.refl (⟨Av,cv,Sv,Lm,hB,rfl⟩:nN P T m R0 s W (Lm++Sv)));clear hou a3;go_enter func212,ntmps212;go_upto_region 0 with(fail);go_quiet (fail);go_wp2_with(fail);exact RI (v:=.tuple #[]) (by simp[Rv,results212,go_sem]) rfl ⟨rfl,by rw[HQ.out];exact(gg.num (m':=m.gw (m.jp-1)) (i:=9) (v:=J Z (m.jp-1)) HT.out rfl (fun _ _ _ _ _ _ _ _ _=>rfl)).fy gF⟩
  | false=>
   have HQ:Hid (kQ P.E s k I ⟨m,s.ut,Q6,Q9⟩=⟨(zI P.E m 10 0 k s.io).gw (m.jp-1),s.ut++[(m.pi.length:Int)],Q6,Q9⟩):=fh (by unfold kQ;rw[Ro hou,Ro qo]);rw[a3] at s4;clear hou a3;go_enter func212,ntmps212;go_upto_region 0 with(fail);go_quiet (fail);go_upto_region 4 with(fail);generalize hq:W.drewN _=W5;have a2:fu W W5:=by rw[<-hq];exact gF
   clear hq;have af:=hB.fy a2;obtain⟨n,aj⟩:∃ n,m.pi.length=n:=⟨_,rfl⟩
   obtain⟨Ai,ci,al⟩:=hB.st.sU;rw[aj] at al hln;have an:=fh aj;clear aj;have q5:=za a2 s5;have a5:=za a2 al;have a1:=za a2 ae;have ac:∀ j,Rx W5 ⟨gs,j,C⟩=I:=(af.rowAt a1).1;have ad:gs<W5.heap.size:=Ri sl a2.size;have au:gs∉Sv:=fun hm=>hB.dv gs hm sL;have aq:P.g∉Sv:=fun hm=>hB.dv _ hm hB.st.iX.1;clear z0 z1 z2 z5 z6 z7 z8 z9 am s0 s1 s2 s3 s4 s5 ae zf zl sf al hB;refine zX (fun w'=>Rb w' ⟨gs,R0.length*6+5,C⟩=D (G Av s.ut.length cv)/\Rb w' ⟨P.g,10,C⟩=D (G Ai n ci)) 14 Fs ⟨zc q5,zc a5⟩ (fun a0=>?_);have aa:fu W5 W5.drew:=(fu.refl W5).drew;have ah:=af.fy aa;have a1:=zc a1;have ad:=Ri ad aa.size;have ac:=(ah.rowAt a1).1;have a2:=a2.trans aa;clear q5 a5 aa af;generalize W5.drew=Wd at ah a0 a1 ad ac a2 |-;have aC:=a0;obtain⟨q5,a5⟩:=aC;refine .tq 0 [14] a0 ?_;refine .tq 1 [14] a0 ?_;refine .tq 2 [14] a0 ?_;refine .tq 3 [14] a0 ?_;refine .tq 4 [14] a0 ?_;refine .tq 5 [14] a0 ?_;refine .tq 6 [14] a0 ?_;refine .tq 7 [14] a0 ?_;refine .tq 8 [14] a0 ?_;refine .tq 9 [14] a0 ?_;refine fA.gL (i:=10) Fs rfl (fun K hK=>?_)
   ·go_simp
    have a0:=Rf (zo q5 (F #[J Z (n:Int)] 3)) (zo a5 (F #[J Z (n:Int)] 3));refine hK.out _ _ a0 ?_;clear hK
    try simp only[lay]
    refine fA.gL (i:=11) Fs rfl (fun K hK=>?_)
    ·have a7:fu Wd (Wd.alloc (F #[J Z (n:Int)] 3)):=(fu.refl _).alloc _
     have ag:=ah.fy a7;have aH:(zr).R Wd Wd.heap.size [J Z (n:Int)] (n:Int):=⟨rfl,K9,K9⟩
     refine pY (L:=s.ut.length+1) rfl (.tmp 47) (.tmp 53) lN zE ag.ut aH rfl rfl rfl (by intro j u hu;simpa[go_sem] using hu) rfl K9 K9 ?_;intro A7 c7 W7 S7 a9 ao aB;have ac:=(ag.rowAt (za a7 a1)).1;have q5:=zC q5 a7 a9 au;have a5:=zC a5 a7 a9 aq;have a1:=zC a1 a7 a9 aq;have a0:=Rf q5 a5;refine hK.out _ _ a0 ?_;clear hK
     try simp only[lay]
     refine .tq 12 [13,14] a0 ?_;refine .tq 13 [14] a0 ?_;have qf:∀ j,Rx W7 ⟨gs,j,C⟩=I:=fun j=>(a9.frozen (Ri ad a7.size) au j).trans (ac j);refine fA.last Fs rfl Fs (fun K hK=>?_);go_simp;refine hK.out _ _ ?_;clear hK
     try simp only[lay]
     have ap:=ag.leaf (lv:=s.ut++[(n:Int)]) (A':=A7) (c':=c7) (gs:=gs) a9 (by simpa using ao) aB ⟨_,a1⟩;simp only[Rh,RA,RR,RF] at ap;obtain⟨L8,h8,av,aG⟩:=ap;obtain⟨aJ,aN,aL,aK,a8,rfl⟩:=h8;have ab:=yq (j:=R0.length*6+5) (u:=G A7 (s.ut.length+1) c7) a1 (Ne.symm sn);generalize W7.setCell _ _=W8 at a8 av ab |-;clear q5 a5 a1 a0 ao;have aD:(zr.sl 3).R W8 W8.heap.size [G T.Ac s.io.length T.cc] s.io:=a8.io.read;obtain⟨aw,aM,aI,t0,t1,t2,t3,t4,t5,tl,tn,tf,tL⟩:=a8.row
     obtain rfl:aw=gs:=by
      rw[aI] at ab;simp only[RT,SY,U7] at ab;exact ab.1.1
     go_wp2_with(first | (go_at_call 203;(with_reducible refine(ze6 a8.st aD hcl (by rw[an.out];exact hln) ay ax hk ai).mono ?_);rintro e w2 ⟨rfl,h2⟩;have HN:=fh (a8.next h2);obtain⟨y9,yf,yl⟩:=h2.c9;replace y9:Rb w2 ⟨P.g,9,C⟩=D (J Z m.jp):=y9;clear h2));have HT:=fh (gg.from (a2.trans a7) (gg.trans av aG HN.out));exact RI (v:=.tuple #[]) (by simp[Rv,results212,go_sem]) rfl ⟨rfl,by rw[HQ.out,an.out];exact HT.out.num rfl (fun _ _ _ _ _ _ _ _ _=>rfl)⟩
section
variable {P:Program} {ops:Array Oper} {Q8:Exit->Act->U->Prop} {md:Ub} {S:U->Prop} {m:Nat}
def pX (Q4:Q Nat)(listed:Array Bool):Nat:=(Q4.filter fun i=>!listed.getD i M).length
theorem Ix:∀(Q4:Q Nat){listed:Array Bool}{i:Nat},Q4.Nodup->i∈Q4->listed.getD i M=I->pX Q4 (listed.setIfInBounds i M)+1=pX Q4 listed
 | [],_,_,_,h,_=>by cases h
 | j::Q4,listed,i,hN,h,hi=>by
  obtain⟨hj,hN⟩:=TX.1 hN;unfold pX;by_cases hji:j=i
  ·subst hji
   have h1:Q4.filter (fun k=>!(listed.setIfInBounds j M).getD k M)=Q4.filter (fun k=>!listed.getD k M):=by
    refine List.filter_congr (fun k hk=>?_);rw[Vi M (show j≠k from fun h=>hj (h ▸ hk))]
   have h2:(listed.setIfInBounds j M).getD j M=M:=by
    rcases UU j listed.size with h' | h'
    ·simp[h']
    ·simp[TM h'] at hi
   rw[TC,TC,h2,hi,h1];rfl
  ·have hm:i∈Q4:=by
    rcases RO.1 h with h | h
    ·exact absurd h.symm hji
    ·exact h
   have h1:=Ix Q4 hN hm hi;unfold pX at h1;rw[TC,TC,Vi M (Ne.symm hji)];split
   ·simp only[RA];omega
   ·exact h1
theorem fA.inv (Q4:Q Nat)(QZ:Array Bool->Act->U->Prop)(c:Nat)(hM:Q4.Nodup)
  (hs:∀ listed a w,QZ listed a w->0<pX Q4 listed->Sn md ops listed≠[]/\∀ i∈Sn md ops listed,i∈Q4/\wpOp P ops Q8 i (fun a' w'=>(i≠m->S w')/\QZ (listed.setIfInBounds i M) a' w') a w)
  (he:∀ listed a w,QZ listed a w->pX Q4 listed=0->fA P md ops Q8 S m c listed a w) :
  ∀(k:Nat) (listed:Array Bool) (a:Act) (w:U),pX Q4 listed=k->QZ listed a w->fA P md ops Q8 S m (k+c) listed a w:=by
 intro k;induction k with
 | zero=>
  intro listed a w hk h;rw[RF];exact he listed a w h hk
 | succ k ih=>
  intro listed a w hk h;obtain⟨h1,h2⟩:=hs listed a w h (by omega);rw[show k+1+c=(k+c)+1 from by omega];refine⟨fun h0=>absurd h0 h1,fun i hi=>?_⟩;obtain⟨h3,h4⟩:=h2 i hi;refine wpOp_mono (fun a' w' h5=>⟨h5.1,ih _ _ _ ?_ h5.2⟩) h4;have h6:=Ix Q4 hM h3 (mem_ready.1 hi).1;omega
theorem fA.Xx (Q4:Q Nat)(QZ:Array Bool->Act->U->Prop)(R:Array Bool->Q Nat)(c:Nat)(hM:Q4.Nodup)
  (hr:∀ listed a w,QZ listed a w->0<pX Q4 listed->Sn md ops listed=R listed/\R listed≠[]/\∀ i∈R listed,i∈Q4)
  (hs:∀ listed a w i,QZ listed a w->i∈R listed->wpOp P ops Q8 i (fun a' w'=>(i≠m->S w')/\QZ (listed.setIfInBounds i M) a' w') a w)
  (he:∀ listed a w,QZ listed a w->pX Q4 listed=0->fA P md ops Q8 S m c listed a w) :
  ∀(k:Nat) (listed:Array Bool) (a:Act) (w:U),pX Q4 listed=k->QZ listed a w->fA P md ops Q8 S m (k+c) listed a w:=
 fA.inv Q4 QZ c hM (fun listed a w hI hu=>by
  obtain⟨h1,h2,h3⟩:=hr listed a w hI hu;rw[h1]
  exact⟨h2,fun i hi=>⟨h3 i hi,hs listed a w i hI hi⟩⟩) he
theorem fA.BN (Q4:Q Nat)(QZ:Act->Array Bool->Act->U->Prop)(R:Array Bool->Q Nat)(c k:Nat)(hM:Q4.Nodup){listed:Array Bool}{a0:Act}{w0:U}
  (hr:∀ listed a w,QZ a0 listed a w->0<pX Q4 listed->Sn md ops listed=R listed/\R listed≠[]/\∀ i∈R listed,i∈Q4)
  (hs:∀ listed a w i,QZ a0 listed a w->i∈R listed->wpOp P ops Q8 i (fun a' w'=>(i≠m->S w')/\QZ a0 (listed.setIfInBounds i M) a' w') a w)
  (he:∀ listed a w,QZ a0 listed a w->pX Q4 listed=0->fA P md ops Q8 S m c listed a w) (hk:pX Q4 listed=k) (h0:QZ a0 listed a0 w0):fA P md ops Q8 S m (k+c) listed a0 w0:=
 fA.Xx Q4 (QZ a0) R c hM hr hs he k listed a0 w0 hk h0
theorem AU {α:Type} {T:Ty α} {v:Value} {xs:Q α} {S:Q Nat} (h:Has (T.sl e) W [v] xs S):∃ A c,v=G A xs.length c:=by
 obtain⟨A,c,_,_,hv,_⟩:=h.1;injection hv with hv _
 exact⟨A,c,hv⟩
theorem wE {i:Nat} {o:Oper} {a:Act} {w:U} {R:Act->U->Prop} (ho:ops[i]?=D o)
  (h:∀ K:Act->U->Prop,Hid (∀ a w,R a w->K a w)->if RV o (Th ops a.tmps)=M then Oper.wp P o a w K Q8 else K (a.put o.dst Ug) w):wpOp P ops Q8 i R a w:=
 wpOp_step ho (fun K hK=>h K (fh fun a w hR=>hK a w hR))
end
theorem iq.WI {rows':Q (Q Value)} {A':X RJ} {c':Nat} {S':Q Nat} (h:iq P m rows W Ai ci Si As cs Ss)
  (hon:fx Ss W W') (hH:Has ((np 6).sl 253) W' [G A' rows'.length c'] rows' S') (hS:∀ b∈S',b∈Ss∨W.heap.size<=b) :
  iq P m rows' (W'.setCell ⟨P.g,11,C⟩ (G A' rows'.length c')) Ai ci Si A' c' S'/\fx (P.g::(Si++Ss)) W (W'.setCell ⟨P.g,11,C⟩ (G A' rows'.length c')):=by
 have a4:=(blt h.box)
 have a3:=(hon.block P.g a4 h.gn.2).trans h.box;have a0:fx [P.g] W' (W'.setCell ⟨P.g,11,C⟩ (G A' rows'.length c')):=(fx.refl _ _).setCell (p:=⟨P.g,11,C⟩) (by simp) _;have a6:=h.fy.size
 have a1:P.g∉S':=fun hm=>by
  rcases hS _ hm with h1 | h1
  ·exact h.gn.2 h1
  ·omega
 have a2:∀ b∈Si,b∉S':=fun b hb hm=>by
  rcases hS b hm with h1 | h1
  ·exact h.jj b hb h1
  ·have:=h.ia.lt b hb;omega
 have a5:∀ b∈S',P.Y.heap.size<=b:=fun b hb=>by
  rcases hS b hb with h1 | h1
  ·exact h.low.2.2 b h1
  ·omega
 refine⟨⟨jd (i:=11) (v:=G A' rows'.length c') a3 rfl,(h.ia.fJ hon (fun b hb hm=>h.jj b hb hm)).fJ a0 (fun b hb hm=>by simp at hm;exact h.gn.1 (hm ▸ hb)),hH.fJ a0 (fun b hb hm=>by simp at hm;exact a1 (hm ▸ hb)),a2,⟨h.gn.1,a1⟩,a0.fy (hon.fy h.fy h.low.2.2) (fun b hb=>by simp at hb;exact hb ▸ h.low.1),⟨h.low.1,h.low.2.1,a5⟩⟩,?_⟩;exact(hon.mono (fun b hb=>by simp[hb])).trans (a0.mono (fun b hb=>by simp at hb;simp[hb]))
theorem jl.pop (h:jl P m (rows++[r]) W L):∃ A c,Rb W ⟨P.g,11,C⟩=D (G A (rows.length+1) c)/\rows.length+1<=c/\
  (∀ W2,(Instr.sliceAt 249 (G A (rows.length+1) c) C (D (J Z (rows.length:Int))) C).run prog W2=.ok (G A rows.length c) W2)/\jl P m rows (W.setCell ⟨P.g,11,C⟩ (G A rows.length c)) L/\fx L W (W.setCell ⟨P.g,11,C⟩ (G A rows.length c)):=by
 obtain⟨Ai,ci,Si,As,cs,Ss,h,rfl⟩:=h;have hl:(rows++[r]).length=rows.length+1:=by simp
 have hc:=Has.cut (T:=np 6) (k:=rows.length) (fun h=>h.2.2.2) h.nu (by omega);rw[List.take_left] at hc;obtain⟨h1,h2⟩:=h.WI (fx.refl Ss W) hc (fun b hb=>.inl hb);have a0:=h.nu.read;rw[hl] at a0;refine⟨As,cs,?_,?_,(Ps Il a0 (by omega)).1,⟨Ai,ci,Si,As,cs,Ss,h1,rfl⟩,h2⟩
 ·have h3:=(nD h.box).2.2.2.2.2.2.2.2.2.2.2.1
  rw[hl] at h3;exact h3
 ·obtain⟨A',c',h5,h6,_⟩:=h.nu.read
  injection h5 with h5 _
  injection h5 with hA hn hc
  omega
theorem iU.snoc {fs:Q Int} (h:iU fs rows)(s:fH)(T:iM)(Av:X RJ)(cv:Nat):iU (fs++[s.f]) (rows++[j7 s T Av cv]):=by
 unfold iU at h |-;rw[Un,Un,h];rfl
def By (P:jt)(d:Nat):Prop:=∀(T:iM)(m:fT)(R0:Q (Q Value))(s:fH)(W:U)(L:Q Nat)(fs0:Q Int)(i e:Nat),nN P T m R0 s W L->iU fs0 R0->R0.length<=3->iv P.E s->s.ut = []->(fs0++[s.f]).length=s.io.length+1->s.io.length+d=3->iC P.E m->m.pi.length<=5000->s.f=(i:Int)->gz P.E.p i e->0<=m.jp->m.jp<=jS (d+1)->
 RD prog 204 #[.pointer (D ⟨P.g,0,C⟩)] W fun r W'=>r=.returned (.tuple #[])/\gg P T (jc P.E (d+1) (fs0++[s.f]) s m).1 R0 (s.wl (jc P.E (d+1) (fs0++[s.f]) s m).2) W L W'
theorem K3 {l:Q fM} {js:Q Int} {j v:Int} (h:js[k]?=D j):WO l (js.take (k+1)) v=mD (WO l (js.take k) v) j.toNat v:=by
 unfold WO;rw[R8,h,List.foldl_append];rfl
theorem iq.BP (h:iq P m (rows++[r]) W Ai ci Si As cs Ss):Has ((np 6).sl 253) W [G As (rows.length+1) cs] (rows++[r]) Ss:=by
 have h9:=h.nu;rw[Rh] at h9;exact h9
theorem Jy {g:Nat} {o0 o1 o2 o3 o4 o5:Value} (h:W.heap[g]?=D (F #[o0,o1,o2,o3,o4,o5] e (0,0)))(v0 v1 v2 v3 v4 v5:Value) :
  ((((((W.setCell ⟨g,0,C⟩ v0).setCell ⟨g,1,C⟩ v1).setCell ⟨g,2,C⟩ v2).setCell ⟨g,3,C⟩ v3).setCell ⟨g,4,C⟩ v4).setCell ⟨g,5,C⟩ v5).heap[g]?=D (F #[v0,v1,v2,v3,v4,v5] e (0,0))/\fx [g] W ((((((W.setCell ⟨g,0,C⟩ v0).setCell ⟨g,1,C⟩ v1).setCell ⟨g,2,C⟩ v2).setCell ⟨g,3,C⟩ v3).setCell ⟨g,4,C⟩ v4).setCell ⟨g,5,C⟩ v5):=
 ⟨jd (i:=5) (v:=v5) (cur':=#[v0,v1,v2,v3,v4,v5]) (jd (i:=4) (v:=v4) (cur':=#[v0,v1,v2,v3,v4,o5]) (jd (i:=3) (v:=v3) (cur':=#[v0,v1,v2,v3,o4,o5]) (jd (i:=2) (v:=v2) (cur':=#[v0,v1,v2,o3,o4,o5]) (jd (i:=1) (v:=v1) (cur':=#[v0,v1,o2,o3,o4,o5]) (jd (i:=0) (v:=v0) (cur':=#[v0,o1,o2,o3,o4,o5]) h rfl) rfl) rfl) rfl) rfl) rfl,((((((fx.refl _ _).setCell (p:=⟨g,0,C⟩) II v0).setCell (p:=⟨g,1,C⟩) II v1).setCell (p:=⟨g,2,C⟩) II v2).setCell (p:=⟨g,3,C⟩) II v3).setCell (p:=⟨g,4,C⟩) II v4).setCell (p:=⟨g,5,C⟩) II v5⟩
theorem ztP {d:Nat} {s:fH} {fs0:Q Int} {g:Int} {A2:X RJ} {n2 c2:Nat} (hLW:By P d)(hR:qA P)(h:nN P T m R0 s W L)(hF:iU fs0 R0)(hs:iv P.E s)(hd3:s.io.length+(d+1)=3)(hfs:(fs0++[s.f]).length=s.io.length+1)
  (hm:iC P.E m) (hcnt:m.pi.length<200) (hg:WC P.E.p g) (hrep:mZ P.E (fs0++[s.f]) m g=M) (h0:((iK P.E.p g).length:Int)<=m.jp) (h1:m.jp<=jS (d+1)) (hk:k<P.E.p.length) (hk0:kP P.E.p k≠0) :
  RD prog 219 #[.pointer (D ⟨P.g,0,C⟩),J Z g,J Z k,.agg #[J Z s.f,G T.Ac s.io.length T.cc,G T.Al s.un.length T.cl,J Z s.first,H s.UV,G A2 n2 c2]] W fun r W'=>r=.returned (.tuple #[])/\gg P T (jQ P.E (jc P.E (d+1)) (fs0++[s.f]) k s g m) R0 s W L W':=by
 obtain⟨Av,cv,Sv,Lm,hB,rfl⟩:=h;obtain⟨i,rfl,x,hx,d6⟩:=hg;have eg:=hR.env.pc.len;have ed:=(Rd.1 hx).1;have ce:=hB.st.iX.2.2.2.2;have d4:=hR.up ce;obtain⟨gp,op,x',eG,eL,eH,eM,cK,ec,ct,p0,p1,p2,p3,q0,q1,q2,_⟩:=lS d4 ed;obtain rfl:x'=x:=by rw[hx] at ct;injection ct with h;exact h.symm
 obtain⟨z0,z1,z2,z5,z6,z7,z8,z9,aV,zf,zl⟩:=hB.st.ir;rw[cK] at z0;have aB:=wh hx;have eT:(i:Int)<(P.E.p.length:Int):=K9;have bZ:=hs.first;have eh:=hs.un.2;have dZ:=hR.env.args;have cq:pt P.E s=pt P.E s:=rfl;obtain⟨a1,ht⟩:∃ t,pt P.E s=t:=⟨_,rfl⟩
 have dU:=hs.io.1
 have f2:0<=a1/\a1<=40:=by
  rw[<-ht];unfold pt;split
  ·rename_i ho
   have:=(hs.UV ho).2.2;omega
  ·omega
 have bA:s.UV=M->Rg Z ((s.un.length:Int)-P.E.args)=a1:=fun h=>by rw[<-ht];unfold pt;rw[Rs h];exact iw
 have bB:s.UV=I->Rg Z (s.first+(s.un.length:Int))=a1:=fun h=>by rw[<-ht];unfold pt;rw[Ro (by simp[h])];exact iw
 have HT:=fh ht;have HX:=fh hx;have cB:=fh d6;have bl:=fh aB;clear cq ht hx d6 aB ct;have ao:fu W (W.alloc (F #[J Z s.f,G T.Ac s.io.length T.cc,G T.Al s.un.length T.cl,J Z s.first,H s.UV,G A2 n2 c2] 253)):=gG;have eb:(W.alloc (F #[J Z s.f,G T.Ac s.io.length T.cc,G T.Al s.un.length T.cl,J Z s.first,H s.UV,G A2 n2 c2] 253)).heap[W.heap.size]?=D (F #[J Z s.f,G T.Ac s.io.length T.cc,G T.Al s.un.length T.cl,J Z s.first,H s.UV,G A2 n2 c2] 253 (0,0)):=Re W _;obtain⟨ou,co⟩:∃ b,s.UV=b:=⟨_,rfl⟩
 rw[co] at bA bB eb ao |-;have eI:=fh co;clear co;cases ou
 case' false=>
  clear bA;have bB:=bB rfl;go_enter func219,ntmps219;go_upto_region 6 with(fail);obtain⟨gb,aK⟩:∃ gb,W.heap.size=gb:=⟨_,rfl⟩
  rw[aK] at eb |-;have aP:=fh aK;clear aK;generalize W.alloc _=Y at ao eb |-
 case' true=>
  clear bB;have bA:=bA rfl;go_enter func219,ntmps219;go_upto_region 4 with(fail);go_quiet (fail);go_upto_region 6 with(fail);generalize hq:World.drewN (W.alloc _) _=Y;have bK:fu (W.alloc (F #[J Z s.f,G T.Ac s.io.length T.cc,G T.Al s.un.length T.cl,J Z s.first,H M,G A2 n2 c2] 253)) Y:=by rw[<-hq];exact gF
  have ao:=ao.trans bK;have eb:=zj eb bK;clear hq bK;obtain⟨gb,aK⟩:∃ gb,W.heap.size=gb:=⟨_,rfl⟩
  rw[aK] at eb |-;have aP:=fh aK;clear aK
 all_goals
  have aF:=za ao z0
  obtain⟨c0,c1,eK,c3,c4,c5,cf,cl⟩:=mU eb
  have dS:=Ty.up _ hB.io.read ao
  have d3:=Ty.up _ d4 ao
  rw[cK] at d3
  have hl:=hR.hl
  go_cut [10] from 10 to 56 (fun v wx=>∃(g3:Nat) (B1 B2:X RJ) (d1 d2:Nat) (S1 S2:Q Nat),v=.pointer (D ⟨g3,0,C⟩)/\J3 zr iI 3 9 Y wx (G B1 (s.io.length+1) d1) (G B2 (zv P.E.p (i:Int)).length d2) (s.io++[(k:Int)]) (zv P.E.p (i:Int)) S1 S2 g3 (F #[J Z (i:Int),G B1 (s.io.length+1) d1,G B2 (zv P.E.p (i:Int)).length d2,J Z a1,H I,G C 0 0] 253 (0,0))/\Y.heap.size<=g3)
  case first=>
   refine zX (fun w'=>Rb w' ⟨gb,1,C⟩=D (G T.Ac s.io.length T.cc)/\Rb w' ⟨P.g,0,C⟩=D (G (D ⟨gp,op,C⟩) P.E.p.length P.c)) 17 Fs ⟨zc c1,zc aF⟩ (fun hH=>?_);have HJ:=J3.start (T:=zr) (Q5:=iI) (e:=3) (f:=9) eb;have HJ:=HJ.fy ((fu.refl _).drew);generalize hYd:Y.drew=Wx at HJ hH |-;clear hYd;refine .tq 0 [17] hH ?_;refine .tq 2 [17] hH ?_;refine .tq 3 [17] hH ?_;refine .tq 5 [17] hH ?_;refine .tq 8 [17] hH ?_;refine .tq 9 [17] hH ?_;refine .tq 10 [17] hH ?_;refine .tq 11 [17] hH ?_;refine .tq 12 [17] hH ?_;refine .tq 14 [17] hH ?_;simp only[List.getElem_toArray,List.getElem_cons_succ,List.getElem_cons_zero,Act.put,TS,List.set_cons_zero,List.set_cons_succ];show fA _ _ _ _ _ _ (7+1) _ _ _;refine fA.BN [1,4,6,7,13,15,16] (fun a0 a2 a w=>∃ b1 b4 b6 b7 a3 a5 a6,a2=#[M,b1,M,M,b4,M,b6,b7,M,M,M,M,M,a3,M,a5,a6,I]/\∃(va vb:Value) (xa:Q Int) (xb:Q N) (Sa Sb:Q Nat) (go:Nat) (oo:Obj) (ge:Nat) (au av aw ax ay ak aj:Value),a=((((((a0.put (D 42) au).put (D 45) av).put (D 47) aw).put (D 48) ax).put (D 54) ay).put (D 56) ak).put (D 10) aj/\J3 zr iI 3 9 Y w va vb xa xb Sa Sb go oo/\(b4=M->b1=M)/\(b7=M->b4=M)/\(b1=M->b4=I->au=va/\xa = [])/\(b4=M->b7=I->av=va/\xa=s.io)/\(b7=M->ax=va/\xa=s.io++[(k:Int)])/\(b6=M->b7=I->aw=G (D ⟨ge,0,C⟩) 1 1/\w.heap[ge]?=D (F #[J Z (k:Int)] 3 (0,0))/\ge∉Sa)/\(a3=M->ay=vb/\xb=zv P.E.p (i:Int))/\(a5=M->b7=M/\a3=M/\ak=.agg #[J Z (i:Int),va,vb,J Z a1,H I,G C 0 0])/\(a6=M->aj=.pointer (D ⟨go,0,C⟩)/\oo=F #[J Z 0,G C 0 0,G C 0 0,J Z 0,H I,G C 0 0] 253 (0,0)/\Y.heap.size<=go)) (fun l=>(if !l.getD 1 M then [1] else [])++(if l.getD 1 M && !l.getD 4 M then [4] else [])++(if !l.getD 6 M then [6] else [])++(if l.getD 4 M && (l.getD 6 M && !l.getD 7 M) then [7] else [])++(if l.getD 7 M && !l.getD 13 M then [13] else [])++(if l.getD 7 M && (l.getD 13 M && !l.getD 15 M) then [15] else [])++(if !l.getD 16 M then [16] else [])) 1 7 qo ?_ ?_ ?_ Fs ?_
   ·intro a2 a w hI cr
    obtain⟨b1,b4,b6,b7,a3,a5,a6,rfl,_⟩:=hI;cases b1 <;> cases b4 <;> cases b6 <;> cases b7 <;> cases a3 <;> cases a5 <;> cases a6
    all_goals first | exact⟨Fs,qo,qo⟩ | (exfalso;revert cr;decide)
   ·intro a2 a w j hI hj
    obtain⟨b1,b4,b6,b7,a3,a5,a6,rfl,va,vb,xa,xb,Sa,Sb,go,oo,ge,au,av,aw,ax,ay,ak,aj,ha,HJ,k4,k7,f1,f4,f7,f6,al,am,an⟩:=hI;simp only[Act.put,TS,List.set_cons_zero,List.set_cons_succ] at ha;subst ha;have hj:(b1=I/\j=1)∨(b1=M/\b4=I/\j=4)∨(b6=I/\j=6)∨(b4=M/\b6=M/\b7=I/\j=7)∨(b7=M/\a3=I/\j=13)∨(b7=M/\a3=M/\a5=I/\j=15)∨(a6=I/\j=16):=by simpa[Vj] using hj
    have ad:=Rf (HJ.cell c1) (HJ.cell aF);obtain⟨A9,c9,rfl⟩:=AU HJ.ha;obtain⟨B9,d9,rfl⟩:=AU HJ.hb;rcases hj with⟨aU,rfl⟩ | ⟨aU,aJ,rfl⟩ | ⟨cN,rfl⟩ | ⟨aJ,cN,aC,rfl⟩ | ⟨aC,ap,rfl⟩ | ⟨aC,ap,dN,rfl⟩ | ⟨dO,rfl⟩
    ·refine wE rfl (fun K hK=>?_)
     go_simp;have HK:=HJ.lk;have ad:=Rf (HK.cell c1) (HK.cell aF);exact hK.out _ _ ⟨fun _=>ad,M,b4,b6,b7,a3,a5,a6,rfl,_,_,_,_,_,_,_,_,ge,(G (D ⟨w.heap.size,0,C⟩) 0 0),av,aw,ax,ay,ak,aj,by simp only[List.getElem_toArray,List.getElem_cons_succ,List.getElem_cons_zero,Act.put,TS,List.set_cons_zero,List.set_cons_succ],HK,(fun _=>rfl),k7,(fun _ _=>⟨rfl,rfl⟩),(fun h=>absurd (k4 h) (by rw[aU];decide)),(fun h=>absurd (k4 (k7 h)) (by rw[aU];decide)),(fun h h7=>by obtain⟨e1,e2,e3⟩:=f6 h h7;have h9:=(blt e2);exact⟨e1,zj e2 ((fu.refl _).alloc _),(by simp;omega)⟩),al,(fun h=>absurd (k4 (k7 (am h).1)) (by rw[aU];decide)),an⟩
    ·obtain⟨rfl,rfl⟩:=f1 aU aJ
     refine wE rfl (fun K hK=>?_);refine zR (L:=s.io.length) rfl (.tmp 42) (.tmp 44) lN zE HJ.ha (Ty.up _ dS HJ.hg) rfl rfl rfl (RF _).symm K9 K9 ?_;intro B1 d1 W1 S1 aa bq ac;rw[RY] at bq;have HK:=HJ.oM aa bq ac;have ad:=Rf (HK.cell c1) (HK.cell aF);exact hK.out _ _ ⟨fun _=>ad,b1,M,b6,b7,a3,a5,a6,rfl,_,_,_,_,_,_,_,_,ge,(G A9 ([]:Q Int).length c9),(G B1 s.io.length d1),aw,ax,ay,ak,aj,by simp only[List.getElem_toArray,List.getElem_cons_succ,List.getElem_cons_zero,Act.put,TS,List.set_cons_zero,List.set_cons_succ],HK,(fun _=>aU),(fun _=>rfl),(fun _ h=>by cases h),(fun _ _=>⟨rfl,rfl⟩),(fun h=>absurd (k7 h) (by rw[aJ];decide)),(fun h h7=>by obtain⟨e1,e2,e3⟩:=f6 h h7;have h9:=(blt e2);exact⟨e1,(aa.block ge h9 e3).trans e2,(fun hm=>(ac ge hm).elim e3 (fun h=>K9))⟩),al,(fun h=>absurd (k7 (am h).1) (by rw[aJ];decide)),an⟩
    ·refine wE rfl (fun K hK=>?_)
     go_simp;have HK:=HJ.fy ((fu.refl w).alloc (F #[J Z (k:Int)] 3));have ad:=Rf (HK.cell c1) (HK.cell aF);exact hK.out _ _ ⟨fun _=>ad,b1,b4,M,b7,a3,a5,a6,rfl,_,_,_,_,_,_,_,_,_,au,av,(G (D ⟨w.heap.size,0,C⟩) 1 1),ax,ay,ak,aj,by simp only[List.getElem_toArray,List.getElem_cons_succ,List.getElem_cons_zero,Act.put,TS,List.set_cons_zero,List.set_cons_succ],HK,k4,k7,f1,f4,f7,(fun _ _=>⟨rfl,Re _ _,fun hm=>by have:=HJ.ha.lt _ hm;omega⟩),al,am,an⟩
    ·obtain⟨rfl,rfl⟩:=f4 aJ aC
     obtain⟨rfl,e2,e3⟩:=f6 cN aC;refine wE rfl (fun K hK=>?_);have bc:zr.R w w.heap.size [J Z (k:Int)] (k:Int):=⟨rfl,K9,K9⟩
     refine pY (L:=s.io.length+1) rfl (.tmp 45) (.tmp 47) lN zE HJ.ha bc rfl rfl rfl (by intro j u hu;rw[Sw w ge _ _ _ (0,0) e2];simpa using hu) rfl K9 K9 ?_;intro B1 d1 W1 S1 aa bq ac;have HK:=HJ.oM aa bq ac;have ad:=Rf (HK.cell c1) (HK.cell aF);exact hK.out _ _ ⟨fun _=>ad,b1,b4,b6,M,a3,a5,a6,rfl,_,_,_,_,_,_,_,_,ge,au,(G A9 s.io.length c9),(G (D ⟨ge,0,C⟩) 1 1),(G B1 (s.io.length+1) d1),ay,ak,aj,by simp only[List.getElem_toArray,List.getElem_cons_succ,List.getElem_cons_zero,Act.put,TS,List.set_cons_zero,List.set_cons_succ],HK,k4,(fun _=>aJ),(fun _ h=>by rw[aJ] at h;cases h),(fun _ h=>by cases h),(fun _=>⟨rfl,rfl⟩),(fun _ h=>by cases h),al,(fun h=>absurd ((am h).1) (by rw[aC];decide)),an⟩
    ·clear aC
     refine wE rfl (fun K hK=>?_);go_simp;go_at_call 191
     with_reducible refine(zii (Ty.up _ d3 HJ.hg) hl hR.hs).mono ?_
     rintro e v ⟨A8,c8,S8,rfl,dC,aI,cS⟩;have HK:=HJ.xO cS dC aI;have ad:=Rf (HK.cell c1) (HK.cell aF);exact hK.out _ _ ⟨fun _=>ad,b1,b4,b6,b7,M,a5,a6,rfl,_,_,_,_,_,_,_,_,ge,au,av,aw,ax,(G A8 (zv P.E.p (i:Int)).length c8),ak,aj,by simp only[List.getElem_toArray,List.getElem_cons_succ,List.getElem_cons_zero,Act.put,TS,List.set_cons_zero,List.set_cons_succ],HK,k4,k7,f1,f4,f7,(fun h h7=>by obtain⟨e1,e2,e3⟩:=f6 h h7;have h9:=(blt e2);exact⟨e1,zj e2 cS,e3⟩),(fun _=>⟨rfl,rfl⟩),(fun h=>absurd ((am h).2.1) (by rw[ap];decide)),an⟩
    ·obtain⟨rfl,rfl⟩:=f7 aC
     obtain⟨rfl,rfl⟩:=al ap;refine wE rfl (fun K hK=>?_);go_simp;exact hK.out _ _ ⟨fun _=>ad,b1,b4,b6,b7,a3,M,a6,rfl,_,_,_,_,_,_,_,_,ge,au,av,aw,(G A9 (s.io.length+1) c9),(G B9 (zv P.E.p (i:Int)).length d9),(.agg #[J Z (i:Int),G A9 (s.io.length+1) c9,G B9 (zv P.E.p (i:Int)).length d9,J Z a1,H I,G C 0 0]),aj,by simp only[List.getElem_toArray,List.getElem_cons_succ,List.getElem_cons_zero,Act.put,TS,List.set_cons_zero,List.set_cons_succ],HJ,k4,k7,f1,f4,(fun _=>⟨II,rfl⟩),f6,(fun _=>⟨rfl,rfl⟩),(fun _=>⟨aC,ap,II⟩),an⟩
    ·refine wE rfl (fun K hK=>?_)
     go_simp;have HK:=HJ.kp (cs:=#[J Z 0,G C 0 0,G C 0 0,J Z 0,H I,G C 0 0]) (t:=253);have ad:=Rf (HK.cell c1) (HK.cell aF);have dL:=HJ.hg.size;exact hK.out _ _ ⟨fun _=>ad,b1,b4,b6,b7,a3,a5,M,rfl,_,_,_,_,_,_,_,_,ge,au,av,aw,ax,ay,ak,(.pointer (D ⟨w.heap.size,0,C⟩)),by simp only[List.getElem_toArray,List.getElem_cons_succ,List.getElem_cons_zero,Act.put,TS,List.set_cons_zero,List.set_cons_succ],HK,k4,k7,f1,f4,f7,(fun h h7=>by obtain⟨e1,e2,e3⟩:=f6 h h7;have h9:=(blt e2);exact⟨e1,zj e2 ((fu.refl _).alloc _),e3⟩),al,am,(fun _=>⟨rfl,rfl,dL⟩)⟩
   ·intro a2 a w hI cr
    obtain⟨b1,b4,b6,b7,a3,a5,a6,rfl,va,vb,xa,xb,Sa,Sb,go,oo,ge,au,av,aw,ax,ay,ak,aj,ha,HJ,k4,k7,f1,f4,f7,f6,al,am,an⟩:=hI;simp only[Act.put,TS,List.set_cons_zero,List.set_cons_succ] at ha;subst ha
    have bT:b7=M/\a3=M/\a5=M/\a6=M/\b1=M/\b4=M/\b6=M:=by
     revert cr;clear k4 k7 f1 f4 f7 f6 al am an HJ;cases b1 <;> cases b4 <;> cases b6 <;> cases b7 <;> cases a3 <;> cases a5 <;> cases a6 <;> decide
    obtain⟨rfl,rfl,rfl,rfl,rfl,rfl,rfl⟩:=bT;obtain⟨rfl,rfl⟩:=f7 rfl;obtain⟨rfl,rfl⟩:=al rfl;obtain⟨_,_,rfl⟩:=am rfl;obtain⟨rfl,rfl,cd⟩:=an rfl;obtain⟨A9,c9,rfl⟩:=AU HJ.ha;obtain⟨B9,d9,rfl⟩:=AU HJ.hb;simp only[Rh,RA,RR,RF] at HJ |-;obtain⟨o0,o1,o2,o3,o4,o5,of,ol⟩:=mU HJ.ho;refine fA.last Fs rfl Fs (fun K hK=>?_);go_simp;refine hK.out _ _ ?_;clear hK
    try simp only[lay]
    have h2:=Jy HJ.ho (J Z (i:Int)) (G A9 (s.io.length+1) c9) (G B9 (zv P.E.p (i:Int)).length d9) (J Z a1) (H I) (G C 0 0);have HJ:=HJ.store h2.2 h2.1 cd;go_wp2_with(fail);go_meet;exact⟨_,A9,B9,c9,d9,Sa,Sb,rfl,HJ,cd⟩
   ·exact⟨I,I,I,I,I,I,I,rfl,_,_,_,_,_,_,_,_,0,Ug,Ug,Ug,Ug,Ug,Ug,Ug,by simp only[Act.put,TS,List.set_cons_zero,List.set_cons_succ],HJ,(fun h=>by cases h),(fun h=>by cases h),(fun h=>by cases h),(fun h=>by cases h),(fun h=>by cases h),(fun h=>by cases h),(fun h=>by cases h),(fun h=>by cases h),(fun h=>by cases h)⟩
  case rest=>
   obtain⟨g3,B1,B2,d1,d2,S1,S2,rfl,HJ,cd⟩:=hcut;have b2:=ao.trans HJ.hg;have bJ:=hB.fy b2;obtain⟨Q9,hX⟩:∃ Q9:fH,Q9=kD P.E (i:Int) k s:=⟨_,rfl⟩
   have a4:Q9=⟨(i:Int),s.io++[(k:Int)],zv P.E.p (i:Int),a1,I,[]⟩:=by rw[hX];unfold kD;rw[HT.out]
   have c6:WC P.E.p (i:Int):=⟨i,rfl,x',HX.out,cB.out⟩
   have bd:0<=(k:Int)/\(k:Int)<P.E.p.length:=⟨K9,K9⟩
   have bt:iv P.E Q9:=by rw[hX];exact Bx hR.env hs c6 bd K9
   have a9:=c6.parts hR.env;rw[bl.out] at a9 h0;obtain⟨na,bg⟩:∃ n,x'.fL.length=n:=⟨_,rfl⟩
   obtain⟨nl,bx⟩:∃ n,(zv P.E.p (i:Int)).length=n:=⟨_,rfl⟩
   rw[bg,bx] at a9;rw[bg] at h0 |-;obtain⟨eY,ep,eZ⟩:=a9;have dT:jS (d+1)<=900:=by unfold jS;omega
   have cE:=zj eb HJ.hg;have aq:gb∉Lm:=fun hm=>by have h8:=aP.out;have:=hB.st.iX.2.2.1 gb hm;omega
   have eQ:=ao.size;have e4:=(blt eb)
   have ah:g3∉Lm:=fun hm=>by have h8:=aP.out;have:=hB.st.iX.2.2.1 g3 hm;omega
   have eX:g3≠gb:=K9;have em:gb≠g3:=K9;have eO:=hB.st.iX.2.1;have cZ:P.g≠g3:=by have h8:=aP.out;omega
   have ai:∀(W':U) (m':fT) (L':Q Nat) (j:Int),jl P m' (R0++[j7 s T Av cv]) W' L'->(zr.sl 3).R W' W'.heap.size [G T.Ac s.io.length T.cc] s.io->(m'.pi.length<=100000/\(0<=j/\j<=100)/\(-1000000<=m'.jp/\m'.jp<=1000000))->
     RD prog 214 #[.pointer (D ⟨P.g,0,C⟩),.agg #[J Z (i:Int),G B1 (s.io.length+1) d1,G B2 nl d2,J Z a1,H I,G C 0 0],J Z j,J Z (k:Int),G T.Ac s.io.length T.cc] W' fun r W2=>r=.returned (.tuple #[])/\gC P (ni P.E m' Q9 j k s.io) (R0++[j7 s T Av cv]) W' L' W2:=fun W' m' L' j hS hc hb=>by
    have h9:=zsu (s:=Q9) (i:=j) (line:=(k:Int)) (io:=s.io) (Ac:=B1) (cc:=d1) (Al:=B2) (cl:=d2) (nl:=nl) (Av:=C) (nv:=0) (cv:=0) hS hc K9 hb.1 hb.2.1 hb.2.2 (by rw[a4];exact⟨by simp only;omega,by simp only;omega⟩) ⟨dZ.1,K9⟩ ⟨K9,K9⟩;rw[a4] at h9 |-;simpa only[Rh,RA,RR,RF] using h9
   obtain⟨ms,ck⟩:∃ v,max m.gO (a1+(nl:Int))=v:=⟨_,rfl⟩
   have ek:(if m.gO<a1+(nl:Int) then a1+(nl:Int) else m.gO)=ms:=by rw[<-ck];split <;> omega
   have cX:max m.gO (a1+(nl:Int))=ms:=ck;have f5:Rg Z (a1+(nl:Int))=a1+(nl:Int):=iw;have de:=fh bJ;have af:=fh HJ;obtain⟨z0,z1,z2,z5,z6,z7,z8,z9,aV,zf,zl⟩:=bJ.st.ir;have br:=HJ.ho;rw[bx] at br;go_upto_region 7 with(fail);refine wo 13 Fs Fs (fun wx hgx=>?_);have aS:=de.out.fy hgx;obtain⟨y0,y1,y2,y5,y6,y7,y8,y9,ff,yf,yl⟩:=aS.st.ir;obtain⟨t0,t1,t2,t3,t4,t5,tf,tl⟩:=mU (zj br hgx);clear z0 z1 z2 z5 z6 z7 z8 z9 aV zf zl;simp only[RZ,SH,Sm,Sx]
   repeat still_step
   refine Tj ?_;obtain⟨m1,bv⟩:∃ m1,m.ke ms=m1:=⟨_,rfl⟩
   have dp:Hid (gC P m1 (R0++[j7 s T Av cv]) wx Lm (wx.setCell ⟨P.g,7,C⟩ (J Z ms))):=fh (by
    rw[<-bv]
    exact(gC.refl aS.st).num rfl (fun _ _ _ _ _ _ _ _ _=>rfl))
   have dm:=fh bv;have bW:=aS.io;have aW:=fh aS.io;have b0:=fh (zj br hgx);have bn:=fh (zj cE hgx);have HH:=fh (show m1.pi=m.pi/\m1.jp=m.jp/\m1.start=m.start/\m1.gO=ms from by rw[<-bv];exact⟨rfl,rfl,rfl,rfl⟩);have f8:Rg Z ((na:Int)-1)=(na:Int)-1:=iw;have f9:=aS.fy (fu.refl _);have b8:=hB.dc;clear bv bW aS bJ br cE eb;go_wp2_with(fail);go_loopw [11] (fun z wr=>∃(zi:Int) (q:Nat) (mq:fT),z=J Z zi/\zi+1=(q:Int)/\q<=na/\Hid (gC P mq (R0++[j7 s T Av cv]) wx Lm wr)/\Hid (rA P.E Q9 k s.io q mq=rA P.E Q9 k s.io na m1)/\Hid (iC P.E mq)/\mq.jp=m.jp-((na-q:Nat):Int)/\mq.pi.length<=200+(na-q)) (fun z _=>(RS z+1).toNat)
   case atStart=>
    have h9:=HH.out;exact⟨(na:Int)-1,na,m1,Ar,K9,Ru _,dp,fh rfl,fh ⟨by rw[h9.1];exact hm.ia,by rw[h9.1];exact hm.pos⟩,by rw[h9.2.1];simp,by rw[h9.1];omega⟩
   case round=>
    obtain⟨zi,q,mq,rfl,d7,f0,hN,hA,cH,cR,dW⟩:=hrel;have ev:Rg Z (zi-1)=zi-1:=iw;by_cases hz0:0<=zi
    ·obtain⟨j,rfl⟩:=RE hz0
     obtain rfl:q=j+1:=K9;have e6:(j:Int)≥0:=hz0;obtain⟨L1,ac,a7,aH⟩:=hN.out;have ag:=(aW.out.fJ a7 (fun b hb=>(b8 b hb).1)).read;obtain⟨t0,t1,t2,t3,t4,t5,tf,tl⟩:=mU (qe a7 ah b0.out);obtain⟨u0,u1,u2,u3,u4,u5,uf,ul⟩:=mU (qe a7 aq bn.out);have bU:mq.pi.length<=100000/\(0<=(j:Int)/\(j:Int)<=100)/\(-1000000<=mq.jp/\mq.jp<=1000000):=⟨K9,⟨K9,K9⟩,K9,K9⟩
     have aO:=yo (n0:=0) (i:=(j:Int)) (line:=(k:Int)) (io:=s.io) hR.env bt cH.out ⟨K9,K9⟩ ⟨K9,K9⟩ bd hs.io;have aZ:=fh aO;have dz:Hid (rA P.E Q9 k s.io j (ni P.E mq Q9 j k s.io)=rA P.E Q9 k s.io na m1):=fh (by rw[<-hA.out];rfl);clear aO hz0 d7;go_wp2_with(first | (go_at_call 214;(with_reducible refine(ai _ _ _ _ ac ag bU).mono ?_);rintro e w2 ⟨rfl,h2⟩));go_roundw
     case measure=>exact gM
     case rel=>
      have eo:=gC.trans ac a7 aH h2;have h7:=aZ.out.cnt;have h8:=aZ.out.jp;exact⟨(j:Int)-1,j,_,Ar,K9,K9,fh eo,dz,fh aZ.out.ok,K9,K9⟩
    ·have e6:¬ (zi≥0):=hz0
     have e7:¬ (0<=zi):=hz0;obtain rfl:q=0:=K9;obtain⟨m2,ej⟩:∃ m2,mq=m2:=⟨_,rfl⟩
     have dd:Hid (rA P.E Q9 k s.io na m1=mq):=fh (by rw[<-hA.out];rfl);subst ej;clear hz0 d7 hA ev;go_wp2_with(fail);go_loopw [12] (fun z wi=>∃(j:Nat) (mz:fT),z=J Z j/\na<=j/\j<=nl/\Hid (gC P mz (R0++[j7 s T Av cv]) wx Lm wi)/\Hid (tE P.E Q9 k s.io (nl-j) j mz=tE P.E Q9 k s.io (nl-na) na mq)/\Hid (iC P.E mz)/\mz.jp=m.jp-(na:Int)/\mz.pi.length<=200+na+2*(j-na)) (fun z _=>nl-(RS z).toNat)
     case atStart=>exact⟨na,mq,rfl,Ru _,ep,hN,fh rfl,cH,by rw[cR,Nat.sub_zero],K9⟩
     case round=>
      obtain⟨j,mz,rfl,eU,eV,cJ,hZ,dG,bu,eS⟩:=hrel;obtain⟨L1,ac,a7,aH⟩:=cJ.out;obtain⟨t0,t1,t2,t3,t4,t5,tf,tl⟩:=mU (qe a7 ah b0.out);by_cases hjl:j<nl
      ·have ee:(j:Int)<(nl:Int):=K9
       obtain⟨u0,u1,u2,u3,u4,u5,uf,ul⟩:=mU (qe a7 aq bn.out);have ag:=(aW.out.fJ a7 (fun b hb=>(b8 b hb).1)).read;have bH:fE 0:=⟨K9,K9⟩
       have bc:fE (k:Int):=⟨K9,K9⟩
       have dP : -1000000<=mz.jp/\mz.jp<=1000000:=⟨K9,K9⟩
       have bV:mz.pi.length<=100000:=K9;have cp:s.io.length<=1000:=K9;have bz:=Cs (n0:=0) (v:=0) (line:=(k:Int)) (io:=s.io) dG.out ⟨K9,K9⟩ ⟨K9,K9⟩ bd hs.io;have h7:=bz.cnt;have h8:=bz.jp;have bU:(mg P.E mz 0 k s.io).pi.length<=100000/\(0<=(j:Int)/\(j:Int)<=100)/\(-1000000<=(mg P.E mz 0 k s.io).jp/\(mg P.E mz 0 k s.io).jp<=1000000):=⟨K9,⟨K9,K9⟩,K9,K9⟩
       have aO:=yo (n0:=0) (i:=(j:Int)) (line:=(k:Int)) (io:=s.io) hR.env bt bz.ok ⟨K9,K9⟩ ⟨K9,K9⟩ bd hs.io;have h5:=aO.cnt;have h6:=aO.jp;have aZ:=fh aO;have HD:=fh (show (ni P.E (mg P.E mz 0 k s.io) Q9 j k s.io).jp=m.jp-(na:Int) from K9);have HC:=fh (show (ni P.E (mg P.E mz 0 k s.io) Q9 j k s.io).pi.length<=200+na+2*(j+1-na) from K9);have dM:Hid (tE P.E Q9 k s.io (nl-(j+1)) (j+1) (ni P.E (mg P.E mz 0 k s.io) Q9 j k s.io)=tE P.E Q9 k s.io (nl-na) na mq):=fh (by rw[<-hZ.out,show nl-j=(nl-(j+1))+1 from K9];rfl);clear aO bz h5 h6 h7 h8;go_wp2_with(first | (go_at_call 211;(with_reducible refine(zlA ac ag cp bV bH dP bc).mono ?_);rintro e w2 ⟨rfl,h2⟩;have H2:=fh h2;obtain⟨L2,cL,bs,dD⟩:=h2;have b5:=((aW.out.fJ a7 (fun b hb=>(b8 b hb).1)).fJ bs (fun b hb=>xe (fun b hb=>(b8 b hb).1) aW.out.lt aH b hb)).read;obtain⟨r0,r1,r2,r3,r4,r5,rf,rl⟩:=mU (qe (a7.then bs aH) ah b0.out);obtain⟨v0,v1,v2,v3,v4,v5,vf,vl⟩:=mU (qe (a7.then bs aH) aq bn.out)) | (go_at_call 214;(with_reducible refine(ai _ _ _ _ cL b5 bU).mono ?_);rintro e w3 ⟨rfl,h3⟩));go_roundw;exact⟨j+1,_,Ar,K9,K9,fh (gC.trans ac a7 aH (gC.trans cL bs dD h3)),dM,fh aZ.out.ok,HD.out,HC.out⟩;exact gM
      ·obtain rfl:j=nl:=K9
       have ee:¬ ((j:Int)<(j:Int)):=K9;obtain⟨m4,bw⟩:∃ m4,qR P.E (i:Int) k s m=m4:=⟨_,rfl⟩
       have hH:m4=if mz.start=M then zI P.E mz 15 0 k s.io else mz:=by
        have e1:(kD P.E (i:Int) k s)=Q9:=hX.symm;have e2:Q9.un.length=j:=by rw[a4];exact bx
        rw[<-bw];unfold qR;simp only[e1,e2,bl.out,bg,HT.out,ck,dm.out,dd.out];rw[<-hZ.out,St];rfl
       have bL:=FW (n0:=200) hR.env hs c6 bd hk0 K9 hm (by rw[bl.out,bg];omega) K9;rw[bw,bl.out,bg] at bL;have aQ:=fh bL;have dn:=fh bw;have ag:=(aW.out.fJ a7 (fun b hb=>(b8 b hb).1)).read;obtain⟨u0,u1,u2,u3,u4,u5,uf,ul⟩:=mU (qe a7 aq bn.out);obtain⟨z0,z1,z2,z5,z6,z7,z8,z9,aV,zf,zl⟩:=ac.ir;obtain⟨sb,d5⟩:∃ b,mz.start=b:=⟨_,rfl⟩
       rw[d5] at hH aV;have cp:s.io.length<=1000:=K9;have bV:mz.pi.length<=100000:=K9;have bc:fE (k:Int):=⟨K9,K9⟩
       have dy:fE 15:=⟨K9,K9⟩
       have bH:fE 0:=⟨K9,K9⟩
       have dY:fE mz.jp:=⟨K9,K9⟩
       obtain⟨dB,bX⟩:∃ v,m.jp-(na:Int)=v:=⟨_,rfl⟩
       rw[bX] at bu;rw[bu] at z9;have df:=fh bu;have aX:=fh bX;have dX:0<=dB/\dB<=900:=⟨K9,K9⟩
       have cz:=fh hH;clear bL bw d5 bu bX hH h0 cR dW;cases sb
       case' false=>
        have HE:Hid (m4=mz):=fh (by rw[cz.out,Ro qo]);have cA:Hid (gC P m4 (R0++[j7 s T Av cv]) wx Lm wr):=fh (by rw[HE.out];exact cJ.out);obtain⟨w4,rfl⟩:∃ w4,w4=wr:=⟨_,rfl⟩
        go_upto_region 20 with(fail)
       case' true=>
        have HE:Hid (m4=zI P.E mz 15 0 k s.io):=fh (by rw[cz.out,Rs rfl]);go_upto_region 20 with(first | (go_at_call 203;(with_reducible refine(ze6 ac ag cp bV dy bH bc dY).mono ?_);rintro e w4 ⟨rfl,h4⟩;have cA:Hid (gC P m4 (R0++[j7 s T Av cv]) wx Lm w4):=fh (by rw[HE.out];exact gC.trans ac a7 aH h4);obtain⟨y9,yf,yl⟩:=h4.c9;replace y9:Rb w4 ⟨P.g,9,C⟩=D (J Z mz.jp):=y9;rw[df.out] at y9;clear h4))
       all_goals
        obtain⟨L4,dK,b3,bM⟩:=cA.out
        obtain⟨Ai,ci,Si,As,cs,Ss,bN,rfl⟩:=dK
        have bk:Rb w4 ⟨P.g,11,C⟩=D (G As (R0.length+1) cs):=by
         have h9:=(nD bN.box).2.2.2.2.2.2.2.2.2.2.2.1;simpa only[Rh,RA,RR,RF] using h9
        obtain⟨q0,q1,q2,q3,q4,q5,qf,ql⟩:=mU (qe b3 ah b0.out)
        have ae:g3∉Ss:=fun hm=>by
         rcases bM g3 (by simp[hm]) with h | h
         ·exact ah h
         ·have h5:=(blt b0.out);omega
        have eP:R0.length<=2:=by have h5:=hF.len;rw[h5];simp only[Rh,RA,RR] at hfs;omega
        refine zX (fun w'=>Rb w' ⟨P.g,11,C⟩=D (G As (R0.length+1) cs)/\Rb w' ⟨g3,0,C⟩=D (J Z (i:Int))/\Rb w' ⟨g3,1,C⟩=D (G B1 (s.io.length+1) d1)/\Rb w' ⟨g3,2,C⟩=D (G B2 j d2)/\Rb w' ⟨g3,3,C⟩=D (J Z a1)/\Rb w' ⟨g3,4,C⟩=D (H I)/\Rb w' ⟨g3,5,C⟩=D (G C 0 0)) 10 Fs ⟨zc bk,zc q0,zc q1,zc q2,zc q3,zc q4,zc q5⟩ (fun a8=>?_)
        have bp:fu w4 w4.drew:=(fu.refl _).drew
        have aA:=bN.grow bp
        clear bk q0 q1 q2 q3 q4 q5
        generalize w4.drew=Wd at aA a8 bp |-
        have aI:=a8
        obtain⟨bk,q0,q1,q2,q3,q4,q5⟩:=aI
        refine .tq 0 [10] a8 ?_
        refine .tq 1 [10] a8 ?_
        refine .tq 2 [10] a8 ?_
        refine .tq 3 [10] a8 ?_
        refine .tq 4 [10] a8 ?_
        refine .tq 5 [10] a8 ?_
        refine fA.gL (i:=6) Fs rfl (fun K hK=>?_)
        ·go_simp
         have a8:=Rf (zo bk (F #[J Z (i:Int),G B1 (s.io.length+1) d1,G B2 j d2,J Z a1,H I,G C 0 0] 253)) (Rf (zo q0 (F #[J Z (i:Int),G B1 (s.io.length+1) d1,G B2 j d2,J Z a1,H I,G C 0 0] 253)) (Rf (zo q1 (F #[J Z (i:Int),G B1 (s.io.length+1) d1,G B2 j d2,J Z a1,H I,G C 0 0] 253)) (Rf (zo q2 (F #[J Z (i:Int),G B1 (s.io.length+1) d1,G B2 j d2,J Z a1,H I,G C 0 0] 253)) (Rf (zo q3 (F #[J Z (i:Int),G B1 (s.io.length+1) d1,G B2 j d2,J Z a1,H I,G C 0 0] 253)) (Rf (zo q4 (F #[J Z (i:Int),G B1 (s.io.length+1) d1,G B2 j d2,J Z a1,H I,G C 0 0] 253)) (zo q5 (F #[J Z (i:Int),G B1 (s.io.length+1) d1,G B2 j d2,J Z a1,H I,G C 0 0] 253)))))));refine hK.out _ _ a8 ?_;clear hK
         try simp only[lay]
         refine fA.gL (i:=7) Fs rfl (fun K hK=>?_)
         ·have ab:fu Wd (Wd.alloc (F #[J Z (i:Int),G B1 (s.io.length+1) d1,G B2 j d2,J Z a1,H I,G C 0 0] 253)):=(fu.refl _).alloc _
          have dJ:(np 6).R Wd Wd.heap.size [J Z (i:Int),G B1 (s.io.length+1) d1,G B2 j d2,J Z a1,H I,G C 0 0] [J Z (i:Int),G B1 (s.io.length+1) d1,G B2 j d2,J Z a1,H I,G C 0 0]:=⟨rfl,rfl,by intro u hu;simp at hu;rcases hu with rfl | rfl | rfl | rfl | rfl | rfl <;> rfl⟩
          refine pY (L:=R0.length+1+1) rfl (.tmp 120) (.tmp 122) Il (Df 6) (aA.BP.fy ab) dJ rfl rfl rfl (by intro j u hu;simpa[go_sem] using hu) rfl K9 K9 ?_;intro A7 c7 W7 S7 aa cF cM;have a8:=Rf (zC bk ab aa aA.gn.2) (Rf (zC q0 ab aa ae) (Rf (zC q1 ab aa ae) (Rf (zC q2 ab aa ae) (Rf (zC q3 ab aa ae) (Rf (zC q4 ab aa ae) (zC q5 ab aa ae))))));have cO:=(aa.block P.g (R9.1 (aA.grow ab).box).1 aA.gn.2).trans (aA.grow ab).box;obtain⟨_,_,_,_,_,_,_,_,_,_,_,_,_,zf,zl⟩:=nD cO;clear cO;refine hK.out _ _ a8 ?_;clear hK
          try simp only[lay]
          refine .tq 8 [9,10] a8 ?_;refine .tq 9 [10] a8 ?_;refine fA.last Fs rfl Fs (fun K hK=>?_);go_simp;refine hK.out _ _ ?_;clear hK
          try simp only[lay]
          have az:=(aA.grow ab).WI (rows':=(R0++[j7 s T Av cv])++[([J Z (i:Int),G B1 (s.io.length+1) d1,G B2 j d2,J Z a1,H I,G C 0 0]:Q Value)]) (A':=A7) (c':=c7) aa (by simpa using cF) cM;have be:((R0++[j7 s T Av cv])++[([J Z (i:Int),G B1 (s.io.length+1) d1,G B2 j d2,J Z a1,H I,G C 0 0]:Q Value)]).length=R0.length+1+1:=II;have ew:([J Z (i:Int),G B1 (s.io.length+1) d1,G B2 j d2,J Z a1,H I,G C 0 0]:Q Value)=j7 Q9 ⟨B1,d1,S1,B2,d2,S2⟩ C 0:=by rw[a4];unfold j7;simp[bx]
          rw[be] at az;generalize W7.setCell _ _=w5 at az |-;obtain⟨bI,bO⟩:=az;rw[ew] at bI;have cn:fx (P.g::(Si++Ss)) w4 w5:=((bp.trans ab).only _).trans bO
          have cV:∀ b∈P.g::(Si++S7),b∈P.g::(Si++Ss)∨w4.heap.size<=b:=fun b hb=>by
           rcases RO.1 hb with h | hb
           ·exact .inl (by simp[h])
           ·rcases Rr.1 hb with hb | hb
            ·exact .inl (by simp[hb])
            ·rcases cM b hb with h | h
             ·exact .inl (by simp[h])
             ·have h5:=(bp.trans ab).size;exact .inr K9
          have eR:=(af.out.hg.trans hgx).size
          have aL:∀ b,Y.heap.size<=b->b<wx.heap.size->b∉P.g::(Si++Ss):=fun b h5 h6 hm=>by
           rcases bM b hm with h | h
           ·have h8:=aP.out;have:=hB.st.iX.2.2.1 b h;omega
           ·omega
          have aE:∀ b,Y.heap.size<=b->b<wx.heap.size->b∉Lm:=fun b h5 h6 hm=>by have h8:=aP.out;have:=hB.st.iX.2.2.1 b hm;omega
          have aM:=(af.out.ha.fy hgx).lt;have aN:=(af.out.hb.fy hgx).lt;have dQ:=(((af.out.ha.fy hgx).fJ b3 (fun b hb=>aE b (af.out.la b hb) (aM b hb))).fJ cn (fun b hb=>aL b (af.out.la b hb) (aM b hb)))
          have dR:=(((af.out.hb.fy hgx).fJ b3 (fun b hb=>aE b (af.out.lb b hb) (aN b hb))).fJ cn (fun b hb=>aL b (af.out.lb b hb) (aN b hb)))
          have eu:=b3.size
          have cQ:∀ b,Y.heap.size<=b->b<wx.heap.size->b∉P.g::(Si++S7):=fun b h5 h6 hm=>by
           rcases cV b hm with h | h
           ·exact aL b h5 h6 h
           ·omega
          have bS:ko P ⟨B1,d1,S1,B2,d2,S2⟩ m4 (R0++[j7 s T Av cv]) Q9 w5 C 0 [] (P.g::(Si++S7)):=⟨⟨Ai,ci,Si,A7,c7,S7,bI,rfl⟩,by rw[a4];simpa using dQ,by rw[a4];simpa using dR,by rw[a4];exact Has.nil _ _ _,fun b hb=>⟨cQ b (af.out.la b hb) (aM b hb),II⟩,fun b hb=>⟨cQ b (af.out.lb b hb) (aN b hb),II⟩,II,II⟩
          obtain⟨e5,bY,_,_⟩:=hR.env.pc.body i x' HX.out cB.out;have bb:=aQ.out;have aD:=hLW ⟨B1,d1,S1,B2,d2,S2⟩ m4 (R0++[j7 s T Av cv]) Q9 w5 ((P.g::(Si++S7))++[]) (fs0++[s.f]) i e5 ⟨C,0,[],_,bS,rfl⟩ (hF.snoc s T Av cv) (by simp;omega) bt (by rw[a4]) (by rw[Rh,hfs,a4];simp) (by rw[a4];simp;omega) bb.ok (by have h5:=bb.cnt;omega) (by rw[a4]) bY (by have h5:=bb.jp;have h6:=aX.out;omega) (by have h5:=bb.jp;have h6:=aX.out;omega);obtain⟨⟨mL,lv⟩,hr⟩:∃ r,jc P.E (d+1) (fs0++[s.f]++[Q9.f]) Q9 m4=r:=⟨_,rfl⟩
          rw[hr] at aD;have HR:=fh hr;have ds:=fh bS;have cy:=fh bY;clear hr bS bI bb bY a8 cF aA;go_upto_region 22 with(first | (go_at_call 204;(with_reducible refine aD.mono ?_);rintro e w6 ⟨rfl,h6⟩));obtain⟨L6,⟨cw,cD,cC,aG,bo,rfl⟩,dH,dE⟩:=h6;obtain⟨dx,eN,da,y0,y1,y2,y3,y4,y5,eA,eB,ez,ey⟩:=bo.row;have cj:(R0++[j7 s T Av cv]).length=R0.length+1:=II;obtain⟨n1,cY⟩:∃ n1,R0.length+1=n1:=⟨_,rfl⟩
          rw[cj,cY] at da y5;replace y5:Rb w6 ⟨dx,n1*6+5,C⟩=D (G cw lv.length cD):=y5;have es:Rg Z ((n1:Int)+1-1)=(n1:Int):=by rw[TB];exact iw
          have et:Rg Z (n1:Int)=(n1:Int):=iw;obtain⟨eC,eE⟩:=bo.st.fz;have cx:=fh bo;have dl:=fh (cj.trans cY);clear y0 y1 y2 y3 y4 bo cj;go_quiet (fail);go_upto_region 23 with(fail);refine wo 14 Fs Fs (fun w7 hg7=>?_);have ba:fu w6 w7:=fu.trans (b:=_) gF hg7;have az:=cx.out.fy ba;obtain⟨A8,c8,d8,cP,bh,aI,bP⟩:=az.st.pop;rw[dl.out] at d8 bh aI bP cP;obtain⟨fb,fe⟩:=az.st.fz;have bD:=fh az;have bG:=fh aI;have bE:=fh bP;clear da y5 eA eB ez ey eC eE az aI bP;simp only[RZ,SH,Sm,Sx]
          repeat still_step
          refine Tj ?_;have bF:=fh (show fx aG w7 (w7.setCell ⟨P.g,11,C⟩ (G A8 n1 c8)) from bE.out);have dk:=fh ((CU hR.env d) (fs0++[s.f]++[Q9.f]) Q9 m4 i e5 bt (by rw[a4]) (by rw[Rh,hfs,a4];simp) (by rw[a4];simp;omega) aQ.out.ok (by rw[a4]) cy.out (by have h5:=aQ.out.jp;have h6:=aX.out;omega) (by have h5:=aQ.out.jp;have h6:=aX.out;omega));have aR:=fh (bD.out.ut.fJ bE.out (fun b hb=>bD.out.dv b hb));replace aR:Hid (Has (zr.sl 3) (w7.setCell ⟨P.g,11,C⟩ (G A8 n1 c8)) [G cw lv.length cD] lv cC):=aR
          have ei:lv.length<=9223372036854775807:=by
           obtain⟨A',c',h5,h6,h7,_⟩:=aR.out.read;injection h5 with h5 _
           injection h5 with hA hn hc
           omega
          go_wp2_with(fail);generalize hw8:w7.setCell _ _=w8 at bG bE aR |-;have dt:=fh hw8;clear hw8 d8 cP bh;obtain⟨nv,d0⟩:∃ n,mL.pi.length=n:=⟨_,rfl⟩
          have bf:=dk.out;rw[HR.out] at bf;have en:nv<=100000:=by have h5:=bf.1.cnt;have h6:=aQ.out.cnt;have h7:=cy.out.len;have h8:iQ d<=1000:=(by unfold iQ;omega);simp only at h5;omega
          have di:Hid (∀ q∈lv,gV mL.pi q):=fh bf.2;have dF:=fh bf.1.ok;have bm:=fh d0;have cm:fE (nv:Int):=⟨K9,K9⟩
          clear bf d0;go_loopw [15] (fun z wi=>∃(q:Nat),z=J Z q/\q<=lv.length/\Hid (gC P (mL.iN (WO mL.pi (lv.take q) nv)) (R0++[j7 s T Av cv]) w8 aG wi)) (fun z _=>lv.length-(RS z).toNat)
          case atStart=>exact⟨0,rfl,Rl _,fh (gC.refl bG.out)⟩
          case round=>
           obtain⟨q,rfl,hq,cI⟩:=hrel;obtain⟨Lq,aT,bQ,cG⟩:=cI.out;have b9:∀ b∈cC,b∉aG:=bD.out.dv;by_cases hql:q<lv.length
           ·have er:(q:Int)<(lv.length:Int):=K9
            have bi:lv[q]?=D lv[q]:=Rn hql;generalize lv[q]=jv at bi;obtain⟨gl,el,eJ,dA,ea,ca,_,_,_,dI,e0,dV,_,_⟩:=qh (aR.out.fJ bQ b9).1 (aR.out.fJ bQ b9).2 bi;obtain⟨rfl,_,_,rfl⟩:=dI;have yl:=dV 0 _ rfl;rw[show q*zr.size+0=q from by show q*1+0=q;omega] at yl;have hP:=K3 (l:=mL.pi) (v:=(nv:Int)) bi;obtain⟨cU,ar⟩:=zb (lv.take q) mL.pi nv;have cT:=cU.jump jv (di.out jv (Rt bi));obtain⟨l,cW⟩:∃ l,WO mL.pi (lv.take q) nv=l:=⟨_,rfl⟩
            rw[cW] at hP aT ar cT;obtain⟨jn,xi,cg,ch,_⟩:=cT;have eW:jn<nv:=by have h5:=(Rd.1 ch).1;rw[ar,bm.out] at h5;exact h5
            have ef:(jn:Int)<(nv:Int):=K9;rw[cg] at yl;have dr:=fh aT;have dj:=fh ch;have HP:=fh hP;have dh:=fh cg;have aY:=fh ar;obtain⟨db,dw,bC⟩:=aT.sU;replace bC:_=D (G db l.length dw):=bC;rw[aY.out,bm.out] at bC;obtain⟨eD,eF⟩:=aT.fz;subst dA;clear hP aT ch cU ar cg cW bi;go_upto_region 27 with(fail);refine wo 16 Fs Fs (fun wy hgy=>?_);have bR:=dr.out.fy hgy;obtain⟨gi,du,cu,fd,_,fc,fa,bj⟩:=bR.arg (m:=mL.iN l) dj.out;replace cu:Rb wy ⟨P.g,10,C⟩=D (G (D ⟨gi,0,C⟩) l.length du):=cu;rw[aY.out,bm.out] at cu;obtain⟨xf,xl⟩:=bR.fz;have fg:=za hgy yl;obtain⟨p1,p2⟩:=bj nv cm
            have dq:Hid (gC P (mL.iN (WO mL.pi (lv.take (q+1)) nv)) (R0++[j7 s T Av cv]) w8 aG (wy.setCell ⟨gi,jn*7+1,C⟩ (J Z (nv:Int)))):=fh (by
             rw[HP.out,dh.out,Ry]
             exact⟨Lq,p1,(bQ.trans (hgy.only aG)).then p2 cG,cG⟩)
            clear bC yl eD eF bR bj p1 p2 ca e0;simp only[RZ,SH,Sm,Sx]
            repeat still_step
            refine Tj ?_;go_wp2_with(fail);go_roundw;exact⟨q+1,Ar,K9,dq⟩;exact gM
           ·obtain rfl:q=lv.length:=K9
            have er:¬ ((lv.length:Int)<(lv.length:Int)):=K9;have f3:Rg Z (dB+1)=dB+1:=iw;obtain⟨z0,z1,z2,z5,z6,z7,z8,z9,aV,zf,zl⟩:=aT.ir;have k9:Hid (gC P ((mL.iN (WO mL.pi lv nv)).gw (dB+1)) (R0++[j7 s T Av cv]) w8 aG (R6 _ ⟨P.g,9,C⟩ (J Z (dB+1)))):=fh (by have h9:=cI.out;rw[SC] at h9;exact h9.num rfl (fun _ _ _ _ _ _ _ _ _=>rfl))
            have dg:Hid (jQ P.E (jc P.E (d+1)) (fs0++[s.f]) k s (i:Int) m=(mL.iN (WO mL.pi lv nv)).gw (dB+1)):=fh (by
             unfold jQ;simp only[dn.out,hX.symm];have e9:=HR.out;have e8:Q9.f=(i:Int):=by rw[a4]
             rw[e8] at e9;rw[e9,aQ.out.jp];simp only[bm.out]
             rw[show m.jp + -(na:Int)=dB from by have h6:=aX.out;omega])
            clear z0 z1 z2 z5 z6 z7 z8 aV;go_wp2_with(fail);have h6:∀ b∈aG,b∈(P.g::(Si++S7))++[]∨w5.heap.size<=b:=fun b hb=>dE b (RH _ hb);have j8:=gC.trans bG.out (by rw[<-dt.out];exact bF.out) (fun b hb=>.inl hb) k9.out;have j6:=gC.from ba j8;have j5:=gC.trans cx.out.st dH h6 j6;rw[Tl] at j5;have j4:=gC.trans ds.out.st cn cV j5;have jx:=gC.trans (⟨Ai,ci,Si,As,cs,Ss,bN,rfl⟩:jl P m4 (R0++[j7 s T Av cv]) w4 (P.g::(Si++Ss))) b3 bM j4;have jW:=gC.from (b2.trans hgx) jx;exact RI (v:=.tuple #[]) (by simp[Rv,results219,go_sem]) rfl ⟨rfl,by rw[dg.out];exact hB.next jW⟩
end Go.Proofs.YthgbglbaemelhaaGreat
