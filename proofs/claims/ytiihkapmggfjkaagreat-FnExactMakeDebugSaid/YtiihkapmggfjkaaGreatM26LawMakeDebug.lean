/-
  PART.
-/
import Derived.Test.YtiihkapmggfjkaaGreatM24LawMakeDebug
import Derived.Test.YtiihkapmggfjkaaGreatM25LawMakeDebug
set_option linter.unusedVariables false
set_option linter.unusedSimpArgs false
set_option maxRecDepth 100000
set_option maxHeartbeats 8000000
namespace Go.Proofs.YtiihkapmggfjkaaGreat
open Value renaming slice->J,int->F,bool->X
open IntKind renaming i64->I,wrap->Ll
open Option renaming none->V,some->H
open Obj renaming cells->C
open Bool renaming false->U,true->M
open Go renaming World->N,results->Ly,Value->LA,Calls->LR,Addr->Mh,yielded->NA
open World renaming cell?->Lg,frozen?->LD
open List renaming length_cons->LJ,length_nil->Mk,take_succ_cons->Mm,take_zero->MN
open Region renaming wanted->MI,ready->MK,Mode->Nz,noSelect->ND,free->Oq
open Tryz
open Go.RowKit
variable {L:Q Nat}{P:ig}{R0 rows:Q (Q LA)}{T:gT}{W W':N}{cs:Nat}{m:fW}
theorem jk.iG (h:jk P m rows W L) :
  Lg W ⟨P.g,0,V⟩=H (J P.A P.E.p.length P.c)/\Lg W ⟨P.g,1,V⟩=H (F I P.b.Frames)/\Lg W ⟨P.g,2,V⟩=H (F I P.E.inl)/\Lg W ⟨P.g,5,V⟩=H (X P.E.gm)/\Lg W ⟨P.g,6,V⟩=H (F I P.E.words)/\Lg W ⟨P.g,7,V⟩=H (F I m.gK)/\Lg W ⟨P.g,8,V⟩=H (F I P.E.args)/\Lg W ⟨P.g,9,V⟩=H (F I m.depth)/\Lg W ⟨P.g,12,V⟩=H (X m.start)/\(∀ j,LD W ⟨P.g,j,V⟩=U)/\P.g<W.heap.size:=by
 obtain⟨Ai,ci,As,cs,z0,z1,z2,z5,z6,z7,z8,z9,a1,a2,a0,zf,zl⟩:=h.cells;exact⟨z0,z1,z2,z5,z6,z7,z8,z9,a0,zf,zl⟩
theorem jk.p8 (h:jk P m rows W L):∃ Ai ci,Lg W ⟨P.g,10,V⟩=H (J Ai m.items.length ci):=by
 obtain⟨Ai,ci,As,cs,z0,z1,z2,z5,z6,z7,z8,z9,a0,a1,a2,zf,zl⟩:=h.cells;exact⟨Ai,ci,a0⟩
theorem gI.c9 (h:gI P m rows W L W'):Lg W' ⟨P.g,9,V⟩=H (F I m.depth)/\(∀ j,LD W' ⟨P.g,j,V⟩=U)/\P.g<W'.heap.size:=by
 obtain⟨L',h1,_⟩:=h;obtain⟨z0,z1,z2,z5,z6,z7,z8,z9,a0,zf,zl⟩:=h1.iG;exact⟨z9,zf,zl⟩
theorem kg.rowAt {s:fL} {Av:K Mh} {cv:Nat} {Sv Lm:Q Nat} {gs n:Nat} (h:kg P T m R0 s W Av cv Sv Lm)(hz:Lg W ⟨P.g,11,V⟩=H (J (H ⟨gs,0,V⟩) n cs)):(∀ j,LD W ⟨gs,j,V⟩=U)/\gs≠P.g:=by
 obtain⟨a4,a3,a2,_,_,_,_,_,_,a5,a1,a0,_⟩:=h.row;rw[a2] at hz;simp only[Mg,Nb,OI] at hz;obtain⟨⟨rfl,_⟩,_⟩:=hz;exact⟨a0,a1⟩
def fL.wl (s:fL)(lv:Q Int):fL:=⟨s.f,s.chain,s.locals,s.first,s.outer,lv⟩
theorem so {g:Prop} (f:g:=by
  have HT:=fE (gA.from hWx HN.out)
  exact MF (v:=.tuple #[]) (by simp[Ly,results240,go_sem]) rfl ⟨rfl,by rw[HQ.out];exact HT.out.num rfl (fun _ _ _ _ _ _ _ _ _=>rfl)⟩):g:=f
theorem zsq {s:fL} {k:Int} {last:Bool} {K6:Q Int} {Lb:Q (Int × Int)} (h:mH P T m R0 s W L)(he:ij P.E)(hcl:s.chain.length<=1000)(hln:m.items.length<=100000)(hlv:s.leaves.length<=100000)(hd : -1000000<=m.depth/\m.depth<=1000000)(hk:fV k)(hn:R0.length<=100) :
  LR prog 240 #[.pointer (H ⟨P.g,0,V⟩),F I k,X last] W fun r W'=>r=.returned (.tuple #[])/\gA P T (zR P.E s k last ⟨m,s.leaves,K6,Lb⟩).m R0 (s.wl (zR P.E s k last ⟨m,s.leaves,K6,Lb⟩).leaves) W L W':=by
 obtain⟨Av,cv,Sv,Lm,hB,rfl⟩:=h;obtain⟨gs,cs,ae,s0,s1,s2,s3,s4,s5,sl,sn,sf,sL⟩:=hB.row;obtain⟨z0,z1,z2,z5,z6,z7,z8,z9,am,zf,zl⟩:=hB.st.iG;have ai:fV m.depth:=⟨by omega,by omega⟩
 have az:fV 14:=⟨by decide,by decide⟩
 have aA:fV 16:=⟨by decide,by decide⟩
 have ay:fV 10:=⟨by decide,by decide⟩
 have ax:fV 0:=⟨by decide,by decide⟩
 have ar:=he.args;have ak:=he.words;have aE:fV P.E.args:=⟨by omega,by omega⟩
 have aF:fV (P.E.args+16*P.E.words):=⟨by omega,by omega⟩
 have aO:Ll I ((R0.length:Int)+1-1)=(R0.length:Int):=by rw[M7];exact iw
 have aP:Ll I (m.depth-1)=m.depth-1:=iw;have aQ:Ll I (16*P.E.words)=16*P.E.words:=iw;have aR:Ll I (P.E.args+16*P.E.words)=P.E.args+16*P.E.words:=iw;by_cases hou:s.outer=M
 ·by_cases a4:P.E.gm=M
  ·skip
   have HQ:Hid (zR P.E s k last ⟨m,s.leaves,K6,Lb⟩=⟨(zv P.E m 14 P.E.args k s.chain).fZ (m.depth-1),s.leaves,K6,Lb⟩):=fE (by unfold zR;rw[Lu hou];rw[Lu a4];rfl);rw[a4] at z5;rw[hou] at s4;clear a4 hou;go_enter func240,ntmps240;go_upto_region 0 with(fail);go_quiet (fail);go_upto_region 7 with(fail);refine mv 10 (by kernel_rfl) (by kernel_rfl) (fun wx hgx=>?_);have hWx:fF W wx:=fF.trans (b:=_) gF hgx;have a6:=hB.fO hWx;have x1:=za hWx s1;have x6:=za hWx z6;have x8:=za hWx z8;clear z0 z1 z2 z5 z6 z7 z8 z9 am s0 s1 s2 s3 s4 s5 ae;simp only[Mm,MN,Mr,Mt]
   repeat still_step
   refine M6 ?_;go_wp2_with(first | (go_at_call 221;(with_reducible refine(zek a6.st a6.chain.read hcl hln az aE hk ai).mono ?_);rintro e w2 ⟨rfl,h2⟩;have HN:=fE (a6.next h2);obtain⟨y9,yf,yl⟩:=h2.c9;replace y9:Lg w2 ⟨P.g,9,V⟩=H (F I m.depth):=y9;clear h2));exact so
  ·have a4:=Ow.2 a4
   have HQ:Hid (zR P.E s k last ⟨m,s.leaves,K6,Lb⟩=⟨(zv P.E m 16 (P.E.args+16*P.E.words) k s.chain).fZ (m.depth-1),s.leaves,K6,Lb⟩):=fE (by unfold zR;rw[Lu hou];rw[Lt (by simp[a4])];rfl);rw[a4] at z5;rw[hou] at s4;clear a4 hou;go_enter func240,ntmps240;go_upto_region 0 with(fail);go_quiet (fail);go_upto_region 1 with(fail);refine mv 16 (by kernel_rfl) (by kernel_rfl) (fun wx hgx=>?_);have hWx:fF W wx:=fF.trans (b:=_) gF hgx;have a6:=hB.fO hWx;have x1:=za hWx s1;have x6:=za hWx z6;have x8:=za hWx z8;clear z0 z1 z2 z5 z6 z7 z8 z9 am s0 s1 s2 s3 s4 s5 ae;simp only[Mm,MN,Mr,Mt]
   repeat still_step
   refine M6 ?_;go_wp2_with(first | (go_at_call 221;(with_reducible refine(zek a6.st a6.chain.read hcl hln aA aF hk ai).mono ?_);rintro e w2 ⟨rfl,h2⟩;have HN:=fE (a6.next h2);obtain⟨y9,yf,yl⟩:=h2.c9;replace y9:Lg w2 ⟨P.g,9,V⟩=H (F I m.depth):=y9;clear h2));exact so
 ·have a3:s.outer=U:=Ow.2 hou
  cases last with
  | true=>
   have HQ:Hid (zR P.E s k M ⟨m,s.leaves,K6,Lb⟩=⟨m.fZ (m.depth-1),s.leaves,K6,Lb⟩):=fE (by unfold zR;rw[Lt hou,Lu rfl];rfl);rw[a3] at s4;have HT:=fE (gA.refl (⟨Av,cv,Sv,Lm,hB,rfl⟩:mH P T m R0 s W (Lm++Sv)));clear hou a3;go_enter func240,ntmps240;go_upto_region 0 with(fail);go_quiet (fail);go_wp2_with(fail);exact MF (v:=.tuple #[]) (by simp[Ly,results240,go_sem]) rfl ⟨rfl,by rw[HQ.out];exact(gA.num (m':=m.fZ (m.depth-1)) (i:=9) (v:=F I (m.depth-1)) HT.out rfl (fun _ _ _ _ _ _ _ _ _=>rfl)).fO gF⟩
  | false=>
   have HQ:Hid (zR P.E s k U ⟨m,s.leaves,K6,Lb⟩=⟨(zv P.E m 10 0 k s.chain).fZ (m.depth-1),s.leaves++[(m.items.length:Int)],K6,Lb⟩):=fE (by unfold zR;rw[Lt hou,Lt (by decide)]);rw[a3] at s4;clear hou a3;go_enter func240,ntmps240;go_upto_region 0 with(fail);go_quiet (fail);go_upto_region 4 with(fail);generalize hq:W.drewN _=W5;have a2:fF W W5:=by rw[<-hq];exact gF
   clear hq;have af:=hB.fO a2;obtain⟨n,aj⟩:∃ n,m.items.length=n:=⟨_,rfl⟩
   obtain⟨Ai,ci,al⟩:=hB.st.p8;rw[aj] at al hln;have an:=fE aj;clear aj;have q5:=za a2 s5;have a5:=za a2 al;have a1:=za a2 ae;have ac:∀ j,LD W5 ⟨gs,j,V⟩=U:=(af.rowAt a1).1;have ad:gs<W5.heap.size:=Li sl a2.size;have au:gs∉Sv:=fun hm=>hB.dv gs hm sL;have aq:P.g∉Sv:=fun hm=>hB.dv _ hm hB.st.iX.1;clear z0 z1 z2 z5 z6 z7 z8 z9 am s0 s1 s2 s3 s4 s5 ae zf zl sf al hB;refine kC (fun w'=>Lg w' ⟨gs,R0.length*6+5,V⟩=H (J Av s.leaves.length cv)/\Lg w' ⟨P.g,10,V⟩=H (J Ai n ci)) 14 (by kernel_rfl) ⟨zb q5,zb a5⟩ (fun a0=>?_);have aa:fF W5 W5.drew:=(fF.refl W5).drew;have ah:=af.fO aa;have a1:=zb a1;have ad:=Li ad aa.size;have ac:=(ah.rowAt a1).1;have a2:=a2.trans aa;clear q5 a5 aa af;generalize W5.drew=Wd at ah a0 a1 ad ac a2 |-;have aC:=a0;obtain⟨q5,a5⟩:=aC;refine .tq 0 [14] a0 ?_;refine .tq 1 [14] a0 ?_;refine .tq 2 [14] a0 ?_;refine .tq 3 [14] a0 ?_;refine .tq 4 [14] a0 ?_;refine .tq 5 [14] a0 ?_;refine .tq 6 [14] a0 ?_;refine .tq 7 [14] a0 ?_;refine .tq 8 [14] a0 ?_;refine .tq 9 [14] a0 ?_;refine fX.jj (i:=10) (by kernel_rfl) rfl (fun Le hK=>?_)
   ·go_simp
    have a0:=Ls (zo q5 (C #[F I (n:Int)] 3)) (zo a5 (C #[F I (n:Int)] 3));refine hK.out _ _ a0 ?_;clear hK
    try simp only[lay]
    refine fX.jj (i:=11) (by kernel_rfl) rfl (fun Le hK=>?_)
    ·have a7:fF Wd (Wd.alloc (C #[F I (n:Int)] 3)):=(fF.refl _).alloc _
     have ag:=ah.fO a7;have aH:(zF).R Wd Wd.heap.size [F I (n:Int)] (n:Int):=⟨rfl,by omega,by omega⟩
     refine zO (L:=s.leaves.length+1) rfl (.tmp 47) (.tmp 53) kJ zP ag.leaves aH rfl rfl rfl (by intro j u hu;simpa[go_sem] using hu) rfl (by omega) (by omega) ?_;intro A7 c7 W7 S7 a9 ao aB;have ac:=(ag.rowAt (za a7 a1)).1;have q5:=kG q5 a7 a9 au;have a5:=kG a5 a7 a9 aq;have a1:=kG a1 a7 a9 aq;have a0:=Ls q5 a5;refine hK.out _ _ a0 ?_;clear hK
     try simp only[lay]
     refine .tq 12 [13,14] a0 ?_;refine .tq 13 [14] a0 ?_;have qf:∀ j,LD W7 ⟨gs,j,V⟩=U:=fun j=>(a9.frozen (Li ad a7.size) au j).trans (ac j);refine fX.last (by kernel_rfl) rfl (by kernel_rfl) (fun Le hK=>?_);go_simp;refine hK.out _ _ ?_;clear hK
     try simp only[lay]
     have ap:=ag.leaf (lv:=s.leaves++[(n:Int)]) (A':=A7) (c':=c7) (gs:=gs) a9 (by simpa using ao) aB ⟨_,a1⟩;simp only[Lj,LJ,Mk,Mb] at ap;obtain⟨L8,h8,av,aG⟩:=ap;obtain⟨aJ,aN,aL,aK,a8,rfl⟩:=h8;have ab:=D0 (j:=R0.length*6+5) (u:=J A7 (s.leaves.length+1) c7) a1 (Ne.symm sn);generalize W7.setCell _ _=W8 at a8 av ab |-;clear q5 a5 a1 a0 ao;have aD:(zF.sl 3).R W8 W8.heap.size [J T.Ac s.chain.length T.cc] s.chain:=a8.chain.read;obtain⟨aw,aM,aI,t0,t1,t2,t3,t4,t5,tl,tn,tf,tL⟩:=a8.row
     obtain rfl:aw=gs:=by
      rw[aI] at ab;simp only[Mg,Nb,OI] at ab;exact ab.1.1
     go_wp2_with(first | (go_at_call 221;(with_reducible refine(zek a8.st aD hcl (by rw[an.out];exact hln) ay ax hk ai).mono ?_);rintro e w2 ⟨rfl,h2⟩;have HN:=fE (a8.next h2);obtain⟨y9,yf,yl⟩:=h2.c9;replace y9:Lg w2 ⟨P.g,9,V⟩=H (F I m.depth):=y9;clear h2));have HT:=fE (gA.from (a2.trans a7) (gA.trans av aG HN.out));exact MF (v:=.tuple #[]) (by simp[Ly,results240,go_sem]) rfl ⟨rfl,by rw[HQ.out,an.out];exact HT.out.num rfl (fun _ _ _ _ _ _ _ _ _=>rfl)⟩
theorem iD.scopes {rows':Q (Q LA)} {Ai As A':K Mh} {ci c':Nat} {Si Ss S':Q Nat} (h:iD P m rows W Ai ci Si As cs Ss)
  (hon:fJ Ss W W') (hH:Has ((jK 6).sl 244) W' [J A' rows'.length c'] rows' S') (hS:∀ b∈S',b∈Ss∨W.heap.size<=b) :
  iD P m rows' (W'.setCell ⟨P.g,11,V⟩ (J A' rows'.length c')) Ai ci Si A' c' S'/\fJ (P.g::(Si++Ss)) W (W'.setCell ⟨P.g,11,V⟩ (J A' rows'.length c')):=by
 have a4:=(blt h.box)
 have a3:=(hon.block P.g a4 h.gn.2).trans h.box;have a0:fJ [P.g] W' (W'.setCell ⟨P.g,11,V⟩ (J A' rows'.length c')):=(fJ.refl _ _).setCell (p:=⟨P.g,11,V⟩) (by simp) _;have a6:=h.fO.size
 have a1:P.g∉S':=fun hm=>by
  rcases hS _ hm with h1 | h1
  ·exact h.gn.2 h1
  ·omega
 have a2:∀ b∈Si,b∉S':=fun b hb hm=>by
  rcases hS b hm with h1 | h1
  ·exact h.kZ b hb h1
  ·have:=h.its.lt b hb;omega
 have a5:∀ b∈S',P.Y.heap.size<=b:=fun b hb=>by
  rcases hS b hb with h1 | h1
  ·exact h.low.2.2 b h1
  ·omega
 refine⟨⟨jo (i:=11) (v:=J A' rows'.length c') a3 rfl,(h.its.fU hon (fun b hb hm=>h.kZ b hb hm)).fU a0 (fun b hb hm=>by simp at hm;exact h.gn.1 (hm ▸ hb)),hH.fU a0 (fun b hb hm=>by simp at hm;exact a1 (hm ▸ hb)),a2,⟨h.gn.1,a1⟩,a0.fO (hon.fO h.fO h.low.2.2) (fun b hb=>by simp at hb;exact hb ▸ h.low.1),⟨h.low.1,h.low.2.1,a5⟩⟩,?_⟩;exact(hon.mono (fun b hb=>by simp[hb])).trans (a0.mono (fun b hb=>by simp at hb;simp[hb]))
theorem jk.pop {r:Q LA} (h:jk P m (rows++[r]) W L):∃ A c,Lg W ⟨P.g,11,V⟩=H (J A (rows.length+1) c)/\rows.length+1<=c/\
  (∀ W2,(Instr.sliceAt 240 (J A (rows.length+1) c) V (H (F I (rows.length:Int))) V).run prog W2=.ok (J A rows.length c) W2)/\jk P m rows (W.setCell ⟨P.g,11,V⟩ (J A rows.length c)) L/\fJ L W (W.setCell ⟨P.g,11,V⟩ (J A rows.length c)):=by
 obtain⟨Ai,ci,Si,As,cs,Ss,h,rfl⟩:=h;have hl:(rows++[r]).length=rows.length+1:=by simp
 have hc:=Has.cut (T:=jK 6) (k:=rows.length) (fun h=>h.2.2.2) h.mu (by omega);rw[List.take_left] at hc;obtain⟨h1,h2⟩:=h.scopes (fJ.refl Ss W) hc (fun b hb=>.inl hb);have a0:=h.mu.read;rw[hl] at a0;refine⟨As,cs,?_,?_,(ud Eb a0 (by omega)).1,⟨Ai,ci,Si,As,cs,Ss,h1,rfl⟩,h2⟩
 ·have h3:=(mC h.box).2.2.2.2.2.2.2.2.2.2.2.1
  rw[hl] at h3;exact h3
 ·obtain⟨A',c',h5,h6,_⟩:=h.mu.read
  injection h5 with h5 _
  injection h5 with hA hn hc
  omega
theorem iW.snoc {fs:Q Int} (h:iW fs rows)(s:fL)(T:gT)(Av:K Mh)(cv:Nat):iW (fs++[s.f]) (rows++[j0 s T Av cv]):=by
 unfold iW at h |-;rw[Nu,Nu,h];rfl
def wN (P:ig)(d:Nat):Prop:=∀(T:gT)(m:fW)(R0:Q (Q LA))(s:fL)(W:N)(L:Q Nat)(fs0:Q Int)(i e:Nat),mH P T m R0 s W L->iW fs0 R0->R0.length<=3->iA P.E s->s.leaves = []->(fs0++[s.f]).length=s.chain.length+1->s.chain.length+d=3->iq P.E m->m.items.length<=5000->s.f=(i:Int)->gg P.E.p i e->0<=m.depth->m.depth<=iP (d+1)->
 LR prog 222 #[.pointer (H ⟨P.g,0,V⟩)] W fun r W'=>r=.returned (.tuple #[])/\gA P T (zH P.E (d+1) (fs0++[s.f]) s m).1 R0 (s.wl (zH P.E (d+1) (fs0++[s.f]) s m).2) W L W'
end Go.Proofs.YtiihkapmggfjkaaGreat
