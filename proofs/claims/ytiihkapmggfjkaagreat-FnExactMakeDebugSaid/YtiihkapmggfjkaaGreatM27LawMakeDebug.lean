/-
  PART.
-/
import Derived.Test.YtiihkapmggfjkaaGreatM26LawMakeDebug
set_option linter.unusedVariables false
set_option linter.unusedSimpArgs false
set_option maxRecDepth 100000
set_option maxHeartbeats 8000000
namespace Go.Proofs.YtiihkapmggfjkaaGreat
open Value renaming slice->J,int->F,bool->X
open IntKind renaming i64->I,wrap->Ll
open Option renaming none->V,some->H
open Obj renaming cells->C
open Bool renaming false->U,true->M
open Go renaming World->N,results->Ly,Value->LA,Calls->LR,Addr->Mh,yielded->NA
open World renaming cell?->Lg,setCell->MH
open _root_.Int renaming toNat_natCast->Lw
open List renaming length_cons->LJ,set_cons_zero->Mi,length_nil->Mk,take_succ_cons->Mm,set_cons_succ->Mn,getElem_cons_succ->Mu,getElem_cons_zero->Mv,nil_append->Mw,getElem_toArray->My,take_zero->MN
open RowKit renaming intOf->Ml
open Region renaming wanted->MI,ready->MK,Mode->Nz,noSelect->ND,free->Oq
open Tryz
open Go.RowKit
variable {P:ig}{W:N}{k:Nat}{m:fW}
theorem Gq {l:Q fS} {js:Q Int} {j v:Int} (h:js[k]?=H j):km l (js.take (k+1)) v=zL (km l (js.take k) v) j.toNat v:=by
 unfold km;rw[ME,h,Ov];rfl
theorem iD.xd {rows:Q (Q LA)} {r:Q LA} {Ai As:K Mh} {ci cs:Nat} {Si Ss:Q Nat} (h:iD P m (rows++[r]) W Ai ci Si As cs Ss):Has ((jK 6).sl 244) W [J As (rows.length+1) cs] (rows++[r]) Ss:=by
 have h9:=h.mu;rw[Lj] at h9;exact h9
theorem EH {g:Nat} {o0 o1 o2 o3 o4 o5:LA} {e:TypeId} (h:W.heap[g]?=H (C #[o0,o1,o2,o3,o4,o5] e (0,0)))(v0 v1 v2 v3 v4 v5:LA) :
  ((((((W.setCell ⟨g,0,V⟩ v0).setCell ⟨g,1,V⟩ v1).setCell ⟨g,2,V⟩ v2).setCell ⟨g,3,V⟩ v3).setCell ⟨g,4,V⟩ v4).setCell ⟨g,5,V⟩ v5).heap[g]?=H (C #[v0,v1,v2,v3,v4,v5] e (0,0))/\fJ [g] W ((((((W.setCell ⟨g,0,V⟩ v0).setCell ⟨g,1,V⟩ v1).setCell ⟨g,2,V⟩ v2).setCell ⟨g,3,V⟩ v3).setCell ⟨g,4,V⟩ v4).setCell ⟨g,5,V⟩ v5):=
 ⟨jo (i:=5) (v:=v5) (cur':=#[v0,v1,v2,v3,v4,v5]) (jo (i:=4) (v:=v4) (cur':=#[v0,v1,v2,v3,v4,o5]) (jo (i:=3) (v:=v3) (cur':=#[v0,v1,v2,v3,o4,o5]) (jo (i:=2) (v:=v2) (cur':=#[v0,v1,v2,o3,o4,o5]) (jo (i:=1) (v:=v1) (cur':=#[v0,v1,o2,o3,o4,o5]) (jo (i:=0) (v:=v0) (cur':=#[v0,o1,o2,o3,o4,o5]) h rfl) rfl) rfl) rfl) rfl) rfl,((((((fJ.refl _ _).setCell (p:=⟨g,0,V⟩) (by simp) v0).setCell (p:=⟨g,1,V⟩) (by simp) v1).setCell (p:=⟨g,2,V⟩) (by simp) v2).setCell (p:=⟨g,3,V⟩) (by simp) v3).setCell (p:=⟨g,4,V⟩) (by simp) v4).setCell (p:=⟨g,5,V⟩) (by simp) v5⟩
theorem zqe {T:gT} {d:Nat} {R0:Q (Q LA)} {s:fL} {L:Q Nat} {fs0:Q Int} {g:Int} {A2:K Mh} {n2 c2:Nat} (hLW:wN P d)(hR:kX P)(h:mH P T m R0 s W L)(hF:iW fs0 R0)(hs:iA P.E s)(hd3:s.chain.length+(d+1)=3)(hfs:(fs0++[s.f]).length=s.chain.length+1)
  (hm:iq P.E m) (hcnt:m.items.length<200) (hg:isFun P.E.p g) (hrep:zT P.E (fs0++[s.f]) m g=M) (h0:((zU P.E.p g).length:Int)<=m.depth) (h1:m.depth<=iP (d+1)) (hk:k<P.E.p.length) (hk0:zG P.E.p k≠0) :
  LR prog 257 #[.pointer (H ⟨P.g,0,V⟩),F I g,F I k,.agg #[F I s.f,J T.Ac s.chain.length T.cc,J T.Al s.locals.length T.cl,F I s.first,X s.outer,J A2 n2 c2]] W fun r W'=>r=.returned (.tuple #[])/\gA P T (zE P.E (zH P.E (d+1)) (fs0++[s.f]) k s g m) R0 s W L W':=by
 obtain⟨Av,cv,Sv,Lm,hB,rfl⟩:=h;obtain⟨i,rfl,x,hx,d5⟩:=hg;have ef:=hR.env.pc.len;have ec:=(Lh.1 hx).1;have cd:=hB.st.iX.2.2.2.2;have d3:=hR.up cd;obtain⟨gp,op,x',eF,eK,eG,eL,cJ,ea,cr,p0,p1,p2,p3,q0,q1,q2,_⟩:=jb d3 ec;obtain rfl:x'=x:=by rw[hx] at cr;injection cr with h;exact h.symm
 obtain⟨z0,z1,z2,z5,z6,z7,z8,z9,aV,zf,zl⟩:=hB.st.iG;rw[cJ] at z0;have aB:=qk hx;have eS:(i:Int)<(P.E.p.length:Int):=by omega
 have bZ:=hs.first;have eg:=hs.locals.2;have dY:=hR.env.args;have cp:m9 P.E s=m9 P.E s:=rfl;obtain⟨a1,ht⟩:∃ t,m9 P.E s=t:=⟨_,rfl⟩
 have dT:=hs.chain.1
 have f0:0<=a1/\a1<=40:=by
  rw[<-ht];unfold m9;split
  ·rename_i ho
   have:=(hs.outer ho).2.2;omega
  ·omega
 have bA:s.outer=M->Ll I ((s.locals.length:Int)-P.E.args)=a1:=fun h=>by rw[<-ht];unfold m9;rw[Lu h];exact iw
 have bB:s.outer=U->Ll I (s.first+(s.locals.length:Int))=a1:=fun h=>by rw[<-ht];unfold m9;rw[Lt (by simp[h])];exact iw
 have HT:=fE ht;have HX:=fE hx;have cA:=fE d5;have bl:=fE aB;clear cp ht hx d5 aB cr;have ao:fF W (W.alloc (C #[F I s.f,J T.Ac s.chain.length T.cc,J T.Al s.locals.length T.cl,F I s.first,X s.outer,J A2 n2 c2] 244)):=gG;have eb:(W.alloc (C #[F I s.f,J T.Ac s.chain.length T.cc,J T.Al s.locals.length T.cl,F I s.first,X s.outer,J A2 n2 c2] 244)).heap[W.heap.size]?=H (C #[F I s.f,J T.Ac s.chain.length T.cc,J T.Al s.locals.length T.cl,F I s.first,X s.outer,J A2 n2 c2] 244 (0,0)):=Lp W _;obtain⟨ou,cn⟩:∃ b,s.outer=b:=⟨_,rfl⟩
 rw[cn] at bA bB eb ao |-;have eH:=fE cn;clear cn;cases ou
 case' false=>
  clear bA;have bB:=bB rfl;go_enter func257,ntmps257;go_upto_region 6 with(fail);obtain⟨gb,aK⟩:∃ gb,W.heap.size=gb:=⟨_,rfl⟩
  rw[aK] at eb |-;have aP:=fE aK;clear aK;generalize W.alloc _=Y at ao eb |-
 case' true=>
  clear bB;have bA:=bA rfl;go_enter func257,ntmps257;go_upto_region 4 with(fail);go_quiet (fail);go_upto_region 6 with(fail);generalize hq:World.drewN (W.alloc _) _=Y;have bK:fF (W.alloc (C #[F I s.f,J T.Ac s.chain.length T.cc,J T.Al s.locals.length T.cl,F I s.first,X M,J A2 n2 c2] 244)) Y:=by rw[<-hq];exact gF
  have ao:=ao.trans bK;have eb:=zj eb bK;clear hq bK;obtain⟨gb,aK⟩:∃ gb,W.heap.size=gb:=⟨_,rfl⟩
  rw[aK] at eb |-;have aP:=fE aK;clear aK
 all_goals
  have aF:=za ao z0
  obtain⟨c0,c1,eJ,c3,c4,c5,cf,cl⟩:=l8 eb
  have dR:=Ty.up _ hB.chain.read ao
  have d0:=Ty.up _ d3 ao
  rw[cJ] at d0
  have hl:=hR.hl
  go_cut [10] from 10 to 56 (fun v wx=>∃(g3:Nat) (B1 B2:K Mh) (d1 d2:Nat) (S1 S2:Q Nat),v=.pointer (H ⟨g3,0,V⟩)/\J3 zF iH 3 9 Y wx (J B1 (s.chain.length+1) d1) (J B2 (zq P.E.p (i:Int)).length d2) (s.chain++[(k:Int)]) (zq P.E.p (i:Int)) S1 S2 g3 (C #[F I (i:Int),J B1 (s.chain.length+1) d1,J B2 (zq P.E.p (i:Int)).length d2,F I a1,X U,J V 0 0] 244 (0,0))/\Y.heap.size<=g3)
  case first=>
   refine kC (fun w'=>Lg w' ⟨gb,1,V⟩=H (J T.Ac s.chain.length T.cc)/\Lg w' ⟨P.g,0,V⟩=H (J (H ⟨gp,op,V⟩) P.E.p.length P.c)) 17 (by kernel_rfl) ⟨zb c1,zb aF⟩ (fun hH=>?_);have HJ:=J3.start (T:=zF) (K8:=iH) (e:=3) (f:=9) eb;have HJ:=HJ.fO ((fF.refl _).drew);generalize hYd:Y.drew=Wx at HJ hH |-;clear hYd;refine .tq 0 [17] hH ?_;refine .tq 2 [17] hH ?_;refine .tq 3 [17] hH ?_;refine .tq 5 [17] hH ?_;refine .tq 8 [17] hH ?_;refine .tq 9 [17] hH ?_;refine .tq 10 [17] hH ?_;refine .tq 11 [17] hH ?_;refine .tq 12 [17] hH ?_;refine .tq 14 [17] hH ?_;simp only[My,Mu,Mv,Act.put,LS,Mi,Mn];show fX _ _ _ _ _ _ (7+1) _ _ _;refine fX.um [1,4,6,7,13,15,16] (fun a0 a2 a w=>∃ b1 b4 b6 b7 a3 a5 a6,a2=#[M,b1,M,M,b4,M,b6,b7,M,M,M,M,M,a3,M,a5,a6,U]/\∃(va vb:LA) (xa:Q Int) (xb:Q D) (Sa Sb:Q Nat) (go:Nat) (oo:Obj) (ge:Nat) (au av aw ax ay ak aj:LA),a=((((((a0.put (H 42) au).put (H 45) av).put (H 47) aw).put (H 48) ax).put (H 54) ay).put (H 56) ak).put (H 10) aj/\J3 zF iH 3 9 Y w va vb xa xb Sa Sb go oo/\(b4=M->b1=M)/\(b7=M->b4=M)/\(b1=M->b4=U->au=va/\xa = [])/\(b4=M->b7=U->av=va/\xa=s.chain)/\(b7=M->ax=va/\xa=s.chain++[(k:Int)])/\(b6=M->b7=U->aw=J (H ⟨ge,0,V⟩) 1 1/\w.heap[ge]?=H (C #[F I (k:Int)] 3 (0,0))/\ge∉Sa)/\(a3=M->ay=vb/\xb=zq P.E.p (i:Int))/\(a5=M->b7=M/\a3=M/\ak=.agg #[F I (i:Int),va,vb,F I a1,X U,J V 0 0])/\(a6=M->aj=.pointer (H ⟨go,0,V⟩)/\oo=C #[F I 0,J V 0 0,J V 0 0,F I 0,X U,J V 0 0] 244 (0,0)/\Y.heap.size<=go)) (fun l=>(if !l.getD 1 M then [1] else [])++(if l.getD 1 M && !l.getD 4 M then [4] else [])++(if !l.getD 6 M then [6] else [])++(if l.getD 4 M && (l.getD 6 M && !l.getD 7 M) then [7] else [])++(if l.getD 7 M && !l.getD 13 M then [13] else [])++(if l.getD 7 M && (l.getD 13 M && !l.getD 15 M) then [15] else [])++(if !l.getD 16 M then [16] else [])) 1 7 (by decide) ?_ ?_ ?_ (by kernel_rfl) ?_
   ·intro a2 a w hI cq
    obtain⟨b1,b4,b6,b7,a3,a5,a6,rfl,_⟩:=hI;cases b1 <;> cases b4 <;> cases b6 <;> cases b7 <;> cases a3 <;> cases a5 <;> cases a6
    all_goals first | exact⟨by kernel_rfl,by decide,by decide⟩ | (exfalso;revert cq;decide)
   ·intro a2 a w j hI hj
    obtain⟨b1,b4,b6,b7,a3,a5,a6,rfl,va,vb,xa,xb,Sa,Sb,go,oo,ge,au,av,aw,ax,ay,ak,aj,ha,HJ,k4,k7,f1,f4,f7,f6,al,am,an⟩:=hI;simp only[Act.put,LS,Mi,Mn] at ha;subst ha;have hj:(b1=U/\j=1)∨(b1=M/\b4=U/\j=4)∨(b6=U/\j=6)∨(b4=M/\b6=M/\b7=U/\j=7)∨(b7=M/\a3=U/\j=13)∨(b7=M/\a3=M/\a5=U/\j=15)∨(a6=U/\j=16):=by simpa[and_assoc] using hj
    have ad:=Ls (HJ.cell c1) (HJ.cell aF);obtain⟨A9,c9,rfl⟩:=qQ HJ.ha;obtain⟨B9,d9,rfl⟩:=qQ HJ.hb;rcases hj with⟨aU,rfl⟩ | ⟨aU,aJ,rfl⟩ | ⟨cM,rfl⟩ | ⟨aJ,cM,aC,rfl⟩ | ⟨aC,ap,rfl⟩ | ⟨aC,ap,dM,rfl⟩ | ⟨dN,rfl⟩
    ·refine ox rfl (fun Le hK=>?_)
     go_simp;have HK:=HJ.lz;have ad:=Ls (HK.cell c1) (HK.cell aF);exact hK.out _ _ ⟨fun _=>ad,M,b4,b6,b7,a3,a5,a6,rfl,_,_,_,_,_,_,_,_,ge,(J (H ⟨w.heap.size,0,V⟩) 0 0),av,aw,ax,ay,ak,aj,by simp only[My,Mu,Mv,Act.put,LS,Mi,Mn],HK,(fun _=>rfl),k7,(fun _ _=>⟨rfl,rfl⟩),(fun h=>absurd (k4 h) (by rw[aU];decide)),(fun h=>absurd (k4 (k7 h)) (by rw[aU];decide)),(fun h h7=>by obtain⟨e1,e2,e3⟩:=f6 h h7;have h9:=(blt e2);exact⟨e1,zj e2 ((fF.refl _).alloc _),(by simp;omega)⟩),al,(fun h=>absurd (k4 (k7 (am h).1)) (by rw[aU];decide)),an⟩
    ·obtain⟨rfl,rfl⟩:=f1 aU aJ
     refine ox rfl (fun Le hK=>?_);refine uv (L:=s.chain.length) rfl (.tmp 42) (.tmp 44) kJ zP HJ.ha (Ty.up _ dR HJ.hg) rfl rfl rfl (Mb _).symm (by omega) (by omega) ?_;intro B1 d1 W1 S1 aa bq ac;rw[Mw] at bq;have HK:=HJ.nj aa bq ac;have ad:=Ls (HK.cell c1) (HK.cell aF);exact hK.out _ _ ⟨fun _=>ad,b1,M,b6,b7,a3,a5,a6,rfl,_,_,_,_,_,_,_,_,ge,(J A9 ([]:Q Int).length c9),(J B1 s.chain.length d1),aw,ax,ay,ak,aj,by simp only[My,Mu,Mv,Act.put,LS,Mi,Mn],HK,(fun _=>aU),(fun _=>rfl),(fun _ h=>by cases h),(fun _ _=>⟨rfl,rfl⟩),(fun h=>absurd (k7 h) (by rw[aJ];decide)),(fun h h7=>by obtain⟨e1,e2,e3⟩:=f6 h h7;have h9:=(blt e2);exact⟨e1,(aa.block ge h9 e3).trans e2,(fun hm=>(ac ge hm).elim e3 (fun h=>by omega))⟩),al,(fun h=>absurd (k7 (am h).1) (by rw[aJ];decide)),an⟩
    ·refine ox rfl (fun Le hK=>?_)
     go_simp;have HK:=HJ.fO ((fF.refl w).alloc (C #[F I (k:Int)] 3));have ad:=Ls (HK.cell c1) (HK.cell aF);exact hK.out _ _ ⟨fun _=>ad,b1,b4,M,b7,a3,a5,a6,rfl,_,_,_,_,_,_,_,_,_,au,av,(J (H ⟨w.heap.size,0,V⟩) 1 1),ax,ay,ak,aj,by simp only[My,Mu,Mv,Act.put,LS,Mi,Mn],HK,k4,k7,f1,f4,f7,(fun _ _=>⟨rfl,Lp _ _,fun hm=>by have:=HJ.ha.lt _ hm;omega⟩),al,am,an⟩
    ·obtain⟨rfl,rfl⟩:=f4 aJ aC
     obtain⟨rfl,e2,e3⟩:=f6 cM aC;refine ox rfl (fun Le hK=>?_);have bc:zF.R w w.heap.size [F I (k:Int)] (k:Int):=⟨rfl,by omega,by omega⟩
     refine zO (L:=s.chain.length+1) rfl (.tmp 45) (.tmp 47) kJ zP HJ.ha bc rfl rfl rfl (by intro j u hu;rw[MD w ge _ _ _ (0,0) e2];simpa using hu) rfl (by omega) (by omega) ?_;intro B1 d1 W1 S1 aa bq ac;have HK:=HJ.nj aa bq ac;have ad:=Ls (HK.cell c1) (HK.cell aF);exact hK.out _ _ ⟨fun _=>ad,b1,b4,b6,M,a3,a5,a6,rfl,_,_,_,_,_,_,_,_,ge,au,(J A9 s.chain.length c9),(J (H ⟨ge,0,V⟩) 1 1),(J B1 (s.chain.length+1) d1),ay,ak,aj,by simp only[My,Mu,Mv,Act.put,LS,Mi,Mn],HK,k4,(fun _=>aJ),(fun _ h=>by rw[aJ] at h;cases h),(fun _ h=>by cases h),(fun _=>⟨rfl,rfl⟩),(fun _ h=>by cases h),al,(fun h=>absurd ((am h).1) (by rw[aC];decide)),an⟩
    ·clear aC
     refine ox rfl (fun Le hK=>?_);go_simp;go_at_call 176
     with_reducible refine(zg8 (Ty.up _ d0 HJ.hg) hl hR.hs).mono ?_
     rintro e v ⟨A8,c8,S8,rfl,dA,aI,cR⟩;have HK:=HJ.td cR dA aI;have ad:=Ls (HK.cell c1) (HK.cell aF);exact hK.out _ _ ⟨fun _=>ad,b1,b4,b6,b7,M,a5,a6,rfl,_,_,_,_,_,_,_,_,ge,au,av,aw,ax,(J A8 (zq P.E.p (i:Int)).length c8),ak,aj,by simp only[My,Mu,Mv,Act.put,LS,Mi,Mn],HK,k4,k7,f1,f4,f7,(fun h h7=>by obtain⟨e1,e2,e3⟩:=f6 h h7;have h9:=(blt e2);exact⟨e1,zj e2 cR,e3⟩),(fun _=>⟨rfl,rfl⟩),(fun h=>absurd ((am h).2.1) (by rw[ap];decide)),an⟩
    ·obtain⟨rfl,rfl⟩:=f7 aC
     obtain⟨rfl,rfl⟩:=al ap;refine ox rfl (fun Le hK=>?_);go_simp;exact hK.out _ _ ⟨fun _=>ad,b1,b4,b6,b7,a3,M,a6,rfl,_,_,_,_,_,_,_,_,ge,au,av,aw,(J A9 (s.chain.length+1) c9),(J B9 (zq P.E.p (i:Int)).length d9),(.agg #[F I (i:Int),J A9 (s.chain.length+1) c9,J B9 (zq P.E.p (i:Int)).length d9,F I a1,X U,J V 0 0]),aj,by simp only[My,Mu,Mv,Act.put,LS,Mi,Mn],HJ,k4,k7,f1,f4,(fun _=>⟨by simp,rfl⟩),f6,(fun _=>⟨rfl,rfl⟩),(fun _=>⟨aC,ap,by simp⟩),an⟩
    ·refine ox rfl (fun Le hK=>?_)
     go_simp;have HK:=HJ.kN (cs:=#[F I 0,J V 0 0,J V 0 0,F I 0,X U,J V 0 0]) (t:=244);have ad:=Ls (HK.cell c1) (HK.cell aF);have dK:=HJ.hg.size;exact hK.out _ _ ⟨fun _=>ad,b1,b4,b6,b7,a3,a5,M,rfl,_,_,_,_,_,_,_,_,ge,au,av,aw,ax,ay,ak,(.pointer (H ⟨w.heap.size,0,V⟩)),by simp only[My,Mu,Mv,Act.put,LS,Mi,Mn],HK,k4,k7,f1,f4,f7,(fun h h7=>by obtain⟨e1,e2,e3⟩:=f6 h h7;have h9:=(blt e2);exact⟨e1,zj e2 ((fF.refl _).alloc _),e3⟩),al,am,(fun _=>⟨rfl,rfl,dK⟩)⟩
   ·intro a2 a w hI cq
    obtain⟨b1,b4,b6,b7,a3,a5,a6,rfl,va,vb,xa,xb,Sa,Sb,go,oo,ge,au,av,aw,ax,ay,ak,aj,ha,HJ,k4,k7,f1,f4,f7,f6,al,am,an⟩:=hI;simp only[Act.put,LS,Mi,Mn] at ha;subst ha
    have bT:b7=M/\a3=M/\a5=M/\a6=M/\b1=M/\b4=M/\b6=M:=by
     revert cq;clear k4 k7 f1 f4 f7 f6 al am an HJ;cases b1 <;> cases b4 <;> cases b6 <;> cases b7 <;> cases a3 <;> cases a5 <;> cases a6 <;> decide
    obtain⟨rfl,rfl,rfl,rfl,rfl,rfl,rfl⟩:=bT;obtain⟨rfl,rfl⟩:=f7 rfl;obtain⟨rfl,rfl⟩:=al rfl;obtain⟨_,_,rfl⟩:=am rfl;obtain⟨rfl,rfl,cb⟩:=an rfl;obtain⟨A9,c9,rfl⟩:=qQ HJ.ha;obtain⟨B9,d9,rfl⟩:=qQ HJ.hb;simp only[Lj,LJ,Mk,Mb] at HJ |-;obtain⟨o0,o1,o2,o3,o4,o5,of,ol⟩:=l8 HJ.ho;refine fX.last (by kernel_rfl) rfl (by kernel_rfl) (fun Le hK=>?_);go_simp;refine hK.out _ _ ?_;clear hK
    try simp only[lay]
    have h2:=EH HJ.ho (F I (i:Int)) (J A9 (s.chain.length+1) c9) (J B9 (zq P.E.p (i:Int)).length d9) (F I a1) (X U) (J V 0 0);have HJ:=HJ.store h2.2 h2.1 cb;go_wp2_with(fail);go_meet;exact⟨_,A9,B9,c9,d9,Sa,Sb,rfl,HJ,cb⟩
   ·exact⟨U,U,U,U,U,U,U,rfl,_,_,_,_,_,_,_,_,0,undef,undef,undef,undef,undef,undef,undef,by simp only[Act.put,LS,Mi,Mn],HJ,(fun h=>by cases h),(fun h=>by cases h),(fun h=>by cases h),(fun h=>by cases h),(fun h=>by cases h),(fun h=>by cases h),(fun h=>by cases h),(fun h=>by cases h),(fun h=>by cases h)⟩
  case rest=>
   obtain⟨g3,B1,B2,d1,d2,S1,S2,rfl,HJ,cb⟩:=hcut;have b2:=ao.trans HJ.hg;have bJ:=hB.fO b2;obtain⟨Lb,hX⟩:∃ Lb:fL,Lb=kS P.E (i:Int) k s:=⟨_,rfl⟩
   have a4:Lb=⟨(i:Int),s.chain++[(k:Int)],zq P.E.p (i:Int),a1,U,[]⟩:=by rw[hX];unfold kS;rw[HT.out]
   have c6:isFun P.E.p (i:Int):=⟨i,rfl,x',HX.out,cA.out⟩
   have bd:0<=(k:Int)/\(k:Int)<P.E.p.length:=⟨by omega,by omega⟩
   have bt:iA P.E Lb:=by rw[hX];exact wL hR.env hs c6 bd (by omega)
   have a9:=c6.parts hR.env;rw[bl.out] at a9 h0;obtain⟨na,bg⟩:∃ n,x'.fP.length=n:=⟨_,rfl⟩
   obtain⟨nl,bx⟩:∃ n,(zq P.E.p (i:Int)).length=n:=⟨_,rfl⟩
   rw[bg,bx] at a9;rw[bg] at h0 |-;obtain⟨eX,eo,eY⟩:=a9;have dS:iP (d+1)<=900:=by unfold iP;omega
   have cD:=zj eb HJ.hg;have aq:gb∉Lm:=fun hm=>by have h8:=aP.out;have:=hB.st.iX.2.2.1 gb hm;omega
   have eP:=ao.size;have e0:=(blt eb)
   have ah:g3∉Lm:=fun hm=>by have h8:=aP.out;have:=hB.st.iX.2.2.1 g3 hm;omega
   have eW:g3≠gb:=by omega
   have ek:gb≠g3:=by omega
   have eN:=hB.st.iX.2.1;have cY:P.g≠g3:=by have h8:=aP.out;omega
   have ai:∀(W':N) (m':fW) (L':Q Nat) (j:Int),jk P m' (R0++[j0 s T Av cv]) W' L'->(zF.sl 3).R W' W'.heap.size [J T.Ac s.chain.length T.cc] s.chain->(m'.items.length<=100000/\(0<=j/\j<=100)/\(-1000000<=m'.depth/\m'.depth<=1000000))->
     LR prog 242 #[.pointer (H ⟨P.g,0,V⟩),.agg #[F I (i:Int),J B1 (s.chain.length+1) d1,J B2 nl d2,F I a1,X U,J V 0 0],F I j,F I (k:Int),J T.Ac s.chain.length T.cc] W' fun r W2=>r=.returned (.tuple #[])/\gI P (jC P.E m' Lb j k s.chain) (R0++[j0 s T Av cv]) W' L' W2:=fun W' m' L' j hS hc hb=>by
    have h9:=zpn (s:=Lb) (i:=j) (line:=(k:Int)) (chain:=s.chain) (Ac:=B1) (cc:=d1) (Al:=B2) (cl:=d2) (nl:=nl) (Av:=V) (nv:=0) (cv:=0) hS hc (by omega) hb.1 hb.2.1 hb.2.2 (by rw[a4];exact⟨by simp only;omega,by simp only;omega⟩) ⟨dY.1,by omega⟩ ⟨by omega,by omega⟩;rw[a4] at h9 |-;simpa only[Lj,LJ,Mk,Mb] using h9
   obtain⟨ms,cj⟩:∃ v,max m.gK (a1+(nl:Int))=v:=⟨_,rfl⟩
   have ej:(if m.gK<a1+(nl:Int) then a1+(nl:Int) else m.gK)=ms:=by rw[<-cj];split <;> omega
   have cW:max m.gK (a1+(nl:Int))=ms:=cj;have f3:Ll I (a1+(nl:Int))=a1+(nl:Int):=iw;have dd:=fE bJ;have af:=fE HJ;obtain⟨z0,z1,z2,z5,z6,z7,z8,z9,aV,zf,zl⟩:=bJ.st.iG;have br:=HJ.ho;rw[bx] at br;go_upto_region 7 with(fail);refine mv 13 (by kernel_rfl) (by kernel_rfl) (fun wx hgx=>?_);have aS:=dd.out.fO hgx;obtain⟨y0,y1,y2,y5,y6,y7,y8,y9,fe,yf,yl⟩:=aS.st.iG;obtain⟨t0,t1,t2,t3,t4,t5,tf,tl⟩:=l8 (zj br hgx);clear z0 z1 z2 z5 z6 z7 z8 z9 aV zf zl;simp only[Mm,MN,Mr,Mt]
   repeat still_step
   refine M6 ?_;obtain⟨m1,bv⟩:∃ m1,m.iY ms=m1:=⟨_,rfl⟩
   have dn:Hid (gI P m1 (R0++[j0 s T Av cv]) wx Lm (wx.setCell ⟨P.g,7,V⟩ (F I ms))):=fE (by
    rw[<-bv]
    exact(gI.refl aS.st).num rfl (fun _ _ _ _ _ _ _ _ _=>rfl))
   have dl:=fE bv;have bW:=aS.chain;have aW:=fE aS.chain;have b0:=fE (zj br hgx);have bn:=fE (zj cD hgx);have HH:=fE (show m1.items=m.items/\m1.depth=m.depth/\m1.start=m.start/\m1.gK=ms from by rw[<-bv];exact⟨rfl,rfl,rfl,rfl⟩);have f5:Ll I ((na:Int)-1)=(na:Int)-1:=iw;have f8:=aS.fO (fF.refl _);have b8:=hB.dc;clear bv bW aS bJ br cD eb;go_wp2_with(fail);go_loopw [11] (fun z wr=>∃(zi:Int) (q:Nat) (mq:fW),z=F I zi/\zi+1=(q:Int)/\q<=na/\Hid (gI P mq (R0++[j0 s T Av cv]) wx Lm wr)/\Hid (nP P.E Lb k s.chain q mq=nP P.E Lb k s.chain na m1)/\Hid (iq P.E mq)/\mq.depth=m.depth-((na-q:Nat):Int)/\mq.items.length<=200+(na-q)) (fun z _=>(Ml z+1).toNat)
   case atStart=>
    have h9:=HH.out;exact⟨(na:Int)-1,na,m1,by go_num,by omega,Lz _,dn,fE rfl,fE ⟨by rw[h9.1];exact hm.its,by rw[h9.1];exact hm.pos⟩,by rw[h9.2.1];simp,by rw[h9.1];omega⟩
   case round=>
    obtain⟨zi,q,mq,rfl,d6,eZ,hN,hA,cG,cQ,dV⟩:=hrel;have eu:Ll I (zi-1)=zi-1:=iw;by_cases hz0:0<=zi
    ·obtain⟨j,rfl⟩:=M1 hz0
     obtain rfl:q=j+1:=by omega
     have e4:(j:Int)≥0:=hz0;obtain⟨L1,ac,a7,aH⟩:=hN.out;have ag:=(aW.out.fU a7 (fun b hb=>(b8 b hb).1)).read;obtain⟨t0,t1,t2,t3,t4,t5,tf,tl⟩:=l8 (lO a7 ah b0.out);obtain⟨u0,u1,u2,u3,u4,u5,uf,ul⟩:=l8 (lO a7 aq bn.out);have bU:mq.items.length<=100000/\(0<=(j:Int)/\(j:Int)<=100)/\(-1000000<=mq.depth/\mq.depth<=1000000):=⟨by omega,⟨by omega,by omega⟩,by omega,by omega⟩
     have aO:=te (n0:=0) (i:=(j:Int)) (line:=(k:Int)) (chain:=s.chain) hR.env bt cG.out ⟨by omega,by omega⟩ ⟨by omega,by omega⟩ bd hs.chain;have aZ:=fE aO;have dy:Hid (nP P.E Lb k s.chain j (jC P.E mq Lb j k s.chain)=nP P.E Lb k s.chain na m1):=fE (by rw[<-hA.out];rfl);clear aO hz0 d6;go_wp2_with(first | (go_at_call 242;(with_reducible refine(ai _ _ _ _ ac ag bU).mono ?_);rintro e w2 ⟨rfl,h2⟩));go_roundw
     case measure=>exact gL
     case rel=>
      have en:=gI.trans ac a7 aH h2;have h7:=aZ.out.cnt;have h8:=aZ.out.depth;exact⟨(j:Int)-1,j,_,by go_num,by omega,by omega,fE en,dy,fE aZ.out.ok,by omega,by omega⟩
    ·have e4:¬ (zi≥0):=hz0
     have e6:¬ (0<=zi):=hz0;obtain rfl:q=0:=by omega
     obtain⟨m2,ei⟩:∃ m2,mq=m2:=⟨_,rfl⟩
     have db:Hid (nP P.E Lb k s.chain na m1=mq):=fE (by rw[<-hA.out];rfl);subst ei;clear hz0 d6 hA eu;go_wp2_with(fail);go_loopw [12] (fun z wi=>∃(j:Nat) (mz:fW),z=F I j/\na<=j/\j<=nl/\Hid (gI P mz (R0++[j0 s T Av cv]) wx Lm wi)/\Hid (oS P.E Lb k s.chain (nl-j) j mz=oS P.E Lb k s.chain (nl-na) na mq)/\Hid (iq P.E mz)/\mz.depth=m.depth-(na:Int)/\mz.items.length<=200+na+2*(j-na)) (fun z _=>nl-(Ml z).toNat)
     case atStart=>exact⟨na,mq,rfl,Lz _,eo,hN,fE rfl,cG,by rw[cQ,Nat.sub_zero],by omega⟩
     case round=>
      obtain⟨j,mz,rfl,eT,eU,cI,hZ,dF,bu,eR⟩:=hrel;obtain⟨L1,ac,a7,aH⟩:=cI.out;obtain⟨t0,t1,t2,t3,t4,t5,tf,tl⟩:=l8 (lO a7 ah b0.out);by_cases hjl:j<nl
      ·have ed:(j:Int)<(nl:Int):=by omega
       obtain⟨u0,u1,u2,u3,u4,u5,uf,ul⟩:=l8 (lO a7 aq bn.out);have ag:=(aW.out.fU a7 (fun b hb=>(b8 b hb).1)).read;have bH:fV 0:=⟨by omega,by omega⟩
       have bc:fV (k:Int):=⟨by omega,by omega⟩
       have dO : -1000000<=mz.depth/\mz.depth<=1000000:=⟨by omega,by omega⟩
       have bV:mz.items.length<=100000:=by omega
       have co:s.chain.length<=1000:=by omega
       have bz:=vK (n0:=0) (v:=0) (line:=(k:Int)) (chain:=s.chain) dF.out ⟨by omega,by omega⟩ ⟨by omega,by omega⟩ bd hs.chain;have h7:=bz.cnt;have h8:=bz.depth;have bU:(zZ P.E mz 0 k s.chain).items.length<=100000/\(0<=(j:Int)/\(j:Int)<=100)/\(-1000000<=(zZ P.E mz 0 k s.chain).depth/\(zZ P.E mz 0 k s.chain).depth<=1000000):=⟨by omega,⟨by omega,by omega⟩,by omega,by omega⟩
       have aO:=te (n0:=0) (i:=(j:Int)) (line:=(k:Int)) (chain:=s.chain) hR.env bt bz.ok ⟨by omega,by omega⟩ ⟨by omega,by omega⟩ bd hs.chain;have h5:=aO.cnt;have h6:=aO.depth;have aZ:=fE aO;have HD:=fE (show (jC P.E (zZ P.E mz 0 k s.chain) Lb j k s.chain).depth=m.depth-(na:Int) from by omega);have HC:=fE (show (jC P.E (zZ P.E mz 0 k s.chain) Lb j k s.chain).items.length<=200+na+2*(j+1-na) from by omega);have dL:Hid (oS P.E Lb k s.chain (nl-(j+1)) (j+1) (jC P.E (zZ P.E mz 0 k s.chain) Lb j k s.chain)=oS P.E Lb k s.chain (nl-na) na mq):=fE (by rw[<-hZ.out,show nl-j=(nl-(j+1))+1 from by omega];rfl);clear aO bz h5 h6 h7 h8;go_wp2_with(first | (go_at_call 239;(with_reducible refine(zkb ac ag co bV bH dO bc).mono ?_);rintro e w2 ⟨rfl,h2⟩;have H2:=fE h2;obtain⟨L2,cK,bs,dC⟩:=h2;have b5:=((aW.out.fU a7 (fun b hb=>(b8 b hb).1)).fU bs (fun b hb=>qj (fun b hb=>(b8 b hb).1) aW.out.lt aH b hb)).read;obtain⟨r0,r1,r2,r3,r4,r5,rf,rl⟩:=l8 (lO (a7.then bs aH) ah b0.out);obtain⟨v0,v1,v2,v3,v4,v5,vf,vl⟩:=l8 (lO (a7.then bs aH) aq bn.out)) | (go_at_call 242;(with_reducible refine(ai _ _ _ _ cK b5 bU).mono ?_);rintro e w3 ⟨rfl,h3⟩));go_roundw;exact⟨j+1,_,by go_num,by omega,by omega,fE (gI.trans ac a7 aH (gI.trans cK bs dC h3)),dL,fE aZ.out.ok,HD.out,HC.out⟩;exact gL
      ·obtain rfl:j=nl:=by omega
       have ed:¬ ((j:Int)<(j:Int)):=by omega
       obtain⟨m4,bw⟩:∃ m4,nG P.E (i:Int) k s m=m4:=⟨_,rfl⟩
       have hH:m4=if mz.start=M then zv P.E mz 15 0 k s.chain else mz:=by
        have e1:(kS P.E (i:Int) k s)=Lb:=hX.symm;have e2:Lb.locals.length=j:=by rw[a4];exact bx
        rw[<-bw];unfold nG;simp only[e1,e2,bl.out,bg,HT.out,cj,dl.out,db.out];rw[<-hZ.out,Mq];rfl
       have bL:=xQ (n0:=200) hR.env hs c6 bd hk0 (by omega) hm (by rw[bl.out,bg];omega) (by omega);rw[bw,bl.out,bg] at bL;have aQ:=fE bL;have dm:=fE bw;have ag:=(aW.out.fU a7 (fun b hb=>(b8 b hb).1)).read;obtain⟨u0,u1,u2,u3,u4,u5,uf,ul⟩:=l8 (lO a7 aq bn.out);obtain⟨z0,z1,z2,z5,z6,z7,z8,z9,aV,zf,zl⟩:=ac.iG;obtain⟨sb,d4⟩:∃ b,mz.start=b:=⟨_,rfl⟩
       rw[d4] at hH aV;have co:s.chain.length<=1000:=by omega
       have bV:mz.items.length<=100000:=by omega
       have bc:fV (k:Int):=⟨by omega,by omega⟩
       have dx:fV 15:=⟨by omega,by omega⟩
       have bH:fV 0:=⟨by omega,by omega⟩
       have dX:fV mz.depth:=⟨by omega,by omega⟩
       obtain⟨dB,bX⟩:∃ v,m.depth-(na:Int)=v:=⟨_,rfl⟩
       rw[bX] at bu;rw[bu] at z9;have de:=fE bu;have aX:=fE bX;have dW:0<=dB/\dB<=900:=⟨by omega,by omega⟩
       have cy:=fE hH;clear bL bw d4 bu bX hH h0 cQ dV;cases sb
       case' false=>
        have HE:Hid (m4=mz):=fE (by rw[cy.out,Lt (by decide)]);have cz:Hid (gI P m4 (R0++[j0 s T Av cv]) wx Lm wr):=fE (by rw[HE.out];exact cI.out);obtain⟨w4,rfl⟩:∃ w4,w4=wr:=⟨_,rfl⟩
        go_upto_region 20 with(fail)
       case' true=>
        have HE:Hid (m4=zv P.E mz 15 0 k s.chain):=fE (by rw[cy.out,Lu rfl]);go_upto_region 20 with(first | (go_at_call 221;(with_reducible refine(zek ac ag co bV dx bH bc dX).mono ?_);rintro e w4 ⟨rfl,h4⟩;have cz:Hid (gI P m4 (R0++[j0 s T Av cv]) wx Lm w4):=fE (by rw[HE.out];exact gI.trans ac a7 aH h4);obtain⟨y9,yf,yl⟩:=h4.c9;replace y9:Lg w4 ⟨P.g,9,V⟩=H (F I mz.depth):=y9;rw[de.out] at y9;clear h4))
       all_goals
        obtain⟨L4,dJ,b3,bM⟩:=cz.out
        obtain⟨Ai,ci,Si,As,cs,Ss,bN,rfl⟩:=dJ
        have bk:Lg w4 ⟨P.g,11,V⟩=H (J As (R0.length+1) cs):=by
         have h9:=(mC bN.box).2.2.2.2.2.2.2.2.2.2.2.1;simpa only[Lj,LJ,Mk,Mb] using h9
        obtain⟨q0,q1,q2,q3,q4,q5,qf,ql⟩:=l8 (lO b3 ah b0.out)
        have ae:g3∉Ss:=fun hm=>by
         rcases bM g3 (by simp[hm]) with h | h
         ·exact ah h
         ·have h5:=(blt b0.out);omega
        have eO:R0.length<=2:=by have h5:=hF.len;rw[h5];simp only[Lj,LJ,Mk] at hfs;omega
        refine kC (fun w'=>Lg w' ⟨P.g,11,V⟩=H (J As (R0.length+1) cs)/\Lg w' ⟨g3,0,V⟩=H (F I (i:Int))/\Lg w' ⟨g3,1,V⟩=H (J B1 (s.chain.length+1) d1)/\Lg w' ⟨g3,2,V⟩=H (J B2 j d2)/\Lg w' ⟨g3,3,V⟩=H (F I a1)/\Lg w' ⟨g3,4,V⟩=H (X U)/\Lg w' ⟨g3,5,V⟩=H (J V 0 0)) 10 (by kernel_rfl) ⟨zb bk,zb q0,zb q1,zb q2,zb q3,zb q4,zb q5⟩ (fun a8=>?_)
        have bp:fF w4 w4.drew:=(fF.refl _).drew
        have aA:=bN.grow bp
        clear bk q0 q1 q2 q3 q4 q5
        generalize w4.drew=Wd at aA a8 bp |-
        have aI:=a8
        obtain⟨bk,q0,q1,q2,q3,q4,q5⟩:=aI
        refine .tq 0 [10] a8 ?_
        refine .tq 1 [10] a8 ?_
        refine .tq 2 [10] a8 ?_
        refine .tq 3 [10] a8 ?_
        refine .tq 4 [10] a8 ?_
        refine .tq 5 [10] a8 ?_
        refine fX.jj (i:=6) (by kernel_rfl) rfl (fun Le hK=>?_)
        ·go_simp
         have a8:=Ls (zo bk (C #[F I (i:Int),J B1 (s.chain.length+1) d1,J B2 j d2,F I a1,X U,J V 0 0] 244)) (Ls (zo q0 (C #[F I (i:Int),J B1 (s.chain.length+1) d1,J B2 j d2,F I a1,X U,J V 0 0] 244)) (Ls (zo q1 (C #[F I (i:Int),J B1 (s.chain.length+1) d1,J B2 j d2,F I a1,X U,J V 0 0] 244)) (Ls (zo q2 (C #[F I (i:Int),J B1 (s.chain.length+1) d1,J B2 j d2,F I a1,X U,J V 0 0] 244)) (Ls (zo q3 (C #[F I (i:Int),J B1 (s.chain.length+1) d1,J B2 j d2,F I a1,X U,J V 0 0] 244)) (Ls (zo q4 (C #[F I (i:Int),J B1 (s.chain.length+1) d1,J B2 j d2,F I a1,X U,J V 0 0] 244)) (zo q5 (C #[F I (i:Int),J B1 (s.chain.length+1) d1,J B2 j d2,F I a1,X U,J V 0 0] 244)))))));refine hK.out _ _ a8 ?_;clear hK
         try simp only[lay]
         refine fX.jj (i:=7) (by kernel_rfl) rfl (fun Le hK=>?_)
         ·have ab:fF Wd (Wd.alloc (C #[F I (i:Int),J B1 (s.chain.length+1) d1,J B2 j d2,F I a1,X U,J V 0 0] 244)):=(fF.refl _).alloc _
          have dI:(jK 6).R Wd Wd.heap.size [F I (i:Int),J B1 (s.chain.length+1) d1,J B2 j d2,F I a1,X U,J V 0 0] [F I (i:Int),J B1 (s.chain.length+1) d1,J B2 j d2,F I a1,X U,J V 0 0]:=⟨rfl,rfl,by intro u hu;simp at hu;rcases hu with rfl | rfl | rfl | rfl | rfl | rfl <;> rfl⟩
          refine zO (L:=R0.length+1+1) rfl (.tmp 120) (.tmp 122) Eb (tt 6) (aA.xd.fO ab) dI rfl rfl rfl (by intro j u hu;simpa[go_sem] using hu) rfl (by omega) (by omega) ?_;intro A7 c7 W7 S7 aa cE cL;have a8:=Ls (kG bk ab aa aA.gn.2) (Ls (kG q0 ab aa ae) (Ls (kG q1 ab aa ae) (Ls (kG q2 ab aa ae) (Ls (kG q3 ab aa ae) (Ls (kG q4 ab aa ae) (kG q5 ab aa ae))))));have cN:=(aa.block P.g (Np.1 (aA.grow ab).box).1 aA.gn.2).trans (aA.grow ab).box;obtain⟨_,_,_,_,_,_,_,_,_,_,_,_,_,zf,zl⟩:=mC cN;clear cN;refine hK.out _ _ a8 ?_;clear hK
          try simp only[lay]
          refine .tq 8 [9,10] a8 ?_;refine .tq 9 [10] a8 ?_;refine fX.last (by kernel_rfl) rfl (by kernel_rfl) (fun Le hK=>?_);go_simp;refine hK.out _ _ ?_;clear hK
          try simp only[lay]
          have az:=(aA.grow ab).scopes (rows':=(R0++[j0 s T Av cv])++[([F I (i:Int),J B1 (s.chain.length+1) d1,J B2 j d2,F I a1,X U,J V 0 0]:Q LA)]) (A':=A7) (c':=c7) aa (by simpa using cE) cL;have be:((R0++[j0 s T Av cv])++[([F I (i:Int),J B1 (s.chain.length+1) d1,J B2 j d2,F I a1,X U,J V 0 0]:Q LA)]).length=R0.length+1+1:=by simp
          have ev:([F I (i:Int),J B1 (s.chain.length+1) d1,J B2 j d2,F I a1,X U,J V 0 0]:Q LA)=j0 Lb ⟨B1,d1,S1,B2,d2,S2⟩ V 0:=by rw[a4];unfold j0;simp[bx]
          rw[be] at az;generalize W7.setCell _ _=w5 at az |-;obtain⟨bI,bO⟩:=az;rw[ev] at bI;have cm:fJ (P.g::(Si++Ss)) w4 w5:=((bp.trans ab).only _).trans bO
          have cU:∀ b∈P.g::(Si++S7),b∈P.g::(Si++Ss)∨w4.heap.size<=b:=fun b hb=>by
           rcases LU.1 hb with h | hb
           ·exact .inl (by simp[h])
           ·rcases LG.1 hb with hb | hb
            ·exact .inl (by simp[hb])
            ·rcases cL b hb with h | h
             ·exact .inl (by simp[h])
             ·have h5:=(bp.trans ab).size;exact .inr (by omega)
          have eQ:=(af.out.hg.trans hgx).size
          have aL:∀ b,Y.heap.size<=b->b<wx.heap.size->b∉P.g::(Si++Ss):=fun b h5 h6 hm=>by
           rcases bM b hm with h | h
           ·have h8:=aP.out;have:=hB.st.iX.2.2.1 b h;omega
           ·omega
          have aE:∀ b,Y.heap.size<=b->b<wx.heap.size->b∉Lm:=fun b h5 h6 hm=>by have h8:=aP.out;have:=hB.st.iX.2.2.1 b hm;omega
          have aM:=(af.out.ha.fO hgx).lt;have aN:=(af.out.hb.fO hgx).lt;have dP:=(((af.out.ha.fO hgx).fU b3 (fun b hb=>aE b (af.out.la b hb) (aM b hb))).fU cm (fun b hb=>aL b (af.out.la b hb) (aM b hb)))
          have dQ:=(((af.out.hb.fO hgx).fU b3 (fun b hb=>aE b (af.out.lb b hb) (aN b hb))).fU cm (fun b hb=>aL b (af.out.lb b hb) (aN b hb)))
          have et:=b3.size
          have cP:∀ b,Y.heap.size<=b->b<wx.heap.size->b∉P.g::(Si++S7):=fun b h5 h6 hm=>by
           rcases cU b hm with h | h
           ·exact aL b h5 h6 h
           ·omega
          have bS:kg P ⟨B1,d1,S1,B2,d2,S2⟩ m4 (R0++[j0 s T Av cv]) Lb w5 V 0 [] (P.g::(Si++S7)):=⟨⟨Ai,ci,Si,A7,c7,S7,bI,rfl⟩,by rw[a4];simpa using dP,by rw[a4];simpa using dQ,by rw[a4];exact Has.nil _ _ _,fun b hb=>⟨cP b (af.out.la b hb) (aM b hb),by simp⟩,fun b hb=>⟨cP b (af.out.lb b hb) (aN b hb),by simp⟩,by simp,by simp⟩
          obtain⟨e5,bY,_,_⟩:=hR.env.pc.body i x' HX.out cA.out;have bb:=aQ.out;have aD:=hLW ⟨B1,d1,S1,B2,d2,S2⟩ m4 (R0++[j0 s T Av cv]) Lb w5 ((P.g::(Si++S7))++[]) (fs0++[s.f]) i e5 ⟨V,0,[],_,bS,rfl⟩ (hF.snoc s T Av cv) (by simp;omega) bt (by rw[a4]) (by rw[Lj,hfs,a4];simp) (by rw[a4];simp;omega) bb.ok (by have h5:=bb.cnt;omega) (by rw[a4]) bY (by have h5:=bb.depth;have h6:=aX.out;omega) (by have h5:=bb.depth;have h6:=aX.out;omega);obtain⟨⟨mL,lv⟩,hr⟩:∃ r,zH P.E (d+1) (fs0++[s.f]++[Lb.f]) Lb m4=r:=⟨_,rfl⟩
          rw[hr] at aD;have HR:=fE hr;have dr:=fE bS;have cx:=fE bY;clear hr bS bI bb bY a8 cE aA;go_upto_region 22 with(first | (go_at_call 222;(with_reducible refine aD.mono ?_);rintro e w6 ⟨rfl,h6⟩));obtain⟨L6,⟨cu,cC,cB,aG,bo,rfl⟩,dG,dD⟩:=h6;obtain⟨dw,eM,d8,y0,y1,y2,y3,y4,y5,ez,eA,ey,ew⟩:=bo.row;have ch:(R0++[j0 s T Av cv]).length=R0.length+1:=by simp
          obtain⟨n1,cX⟩:∃ n1,R0.length+1=n1:=⟨_,rfl⟩
          rw[ch,cX] at d8 y5;replace y5:Lg w6 ⟨dw,n1*6+5,V⟩=H (J cu lv.length cC):=y5;have er:Ll I ((n1:Int)+1-1)=(n1:Int):=by rw[M7];exact iw
          have es:Ll I (n1:Int)=(n1:Int):=iw;obtain⟨eB,eD⟩:=bo.st.fz;have cw:=fE bo;have dk:=fE (ch.trans cX);clear y0 y1 y2 y3 y4 bo ch;go_quiet (fail);go_upto_region 23 with(fail);refine mv 14 (by kernel_rfl) (by kernel_rfl) (fun w7 hg7=>?_);have ba:fF w6 w7:=fF.trans (b:=_) gF hg7;have az:=cw.out.fO ba;obtain⟨A8,c8,d7,cO,bh,aI,bP⟩:=az.st.pop;rw[dk.out] at d7 bh aI bP cO;obtain⟨fa,fd⟩:=az.st.fz;have bD:=fE az;have bG:=fE aI;have bE:=fE bP;clear d8 y5 ez eA ey ew eB eD az aI bP;simp only[Mm,MN,Mr,Mt]
          repeat still_step
          refine M6 ?_;have bF:=fE (show fJ aG w7 (w7.setCell ⟨P.g,11,V⟩ (J A8 n1 c8)) from bE.out);have dj:=fE ((uL hR.env d) (fs0++[s.f]++[Lb.f]) Lb m4 i e5 bt (by rw[a4]) (by rw[Lj,hfs,a4];simp) (by rw[a4];simp;omega) aQ.out.ok (by rw[a4]) cx.out (by have h5:=aQ.out.depth;have h6:=aX.out;omega) (by have h5:=aQ.out.depth;have h6:=aX.out;omega));have aR:=fE (bD.out.leaves.fU bE.out (fun b hb=>bD.out.dv b hb));replace aR:Hid (Has (zF.sl 3) (w7.setCell ⟨P.g,11,V⟩ (J A8 n1 c8)) [J cu lv.length cC] lv cB):=aR
          have eh:lv.length<=9223372036854775807:=by
           obtain⟨A',c',h5,h6,h7,_⟩:=aR.out.read;injection h5 with h5 _
           injection h5 with hA hn hc
           omega
          go_wp2_with(fail);generalize hw8:w7.setCell _ _=w8 at bG bE aR |-;have ds:=fE hw8;clear hw8 d7 cO bh;obtain⟨nv,cZ⟩:∃ n,mL.items.length=n:=⟨_,rfl⟩
          have bf:=dj.out;rw[HR.out] at bf;have em:nv<=100000:=by have h5:=bf.1.cnt;have h6:=aQ.out.cnt;have h7:=cx.out.len;have h8:iE d<=1000:=(by unfold iE;omega);simp only at h5;omega
          have dh:Hid (∀ q∈lv,ie mL.items q):=fE bf.2;have dE:=fE bf.1.ok;have bm:=fE cZ;have ck:fV (nv:Int):=⟨by omega,by omega⟩
          clear bf cZ;go_loopw [15] (fun z wi=>∃(q:Nat),z=F I q/\q<=lv.length/\Hid (gI P (mL.gU (km mL.items (lv.take q) nv)) (R0++[j0 s T Av cv]) w8 aG wi)) (fun z _=>lv.length-(Ml z).toNat)
          case atStart=>exact⟨0,rfl,Lv _,fE (gI.refl bG.out)⟩
          case round=>
           obtain⟨q,rfl,hq,cH⟩:=hrel;obtain⟨Lq,aT,bQ,cF⟩:=cH.out;have b9:∀ b∈cB,b∉aG:=bD.out.dv;by_cases hql:q<lv.length
           ·have ep:(q:Int)<(lv.length:Int):=by omega
            have bi:lv[q]?=H lv[q]:=Lo hql;generalize lv[q]=jv at bi;obtain⟨gl,el,eI,dz,e7,ca,_,_,_,dH,dZ,dU,_,_⟩:=mN (aR.out.fU bQ b9).1 (aR.out.fU bQ b9).2 bi;obtain⟨rfl,_,_,rfl⟩:=dH;have yl:=dU 0 _ rfl;rw[show q*zF.size+0=q from by show q*1+0=q;omega] at yl;have hP:=Gq (l:=mL.items) (v:=(nv:Int)) bi;obtain⟨cT,ar⟩:=vE (lv.take q) mL.items nv;have cS:=cT.jump jv (dh.out jv (LP bi));obtain⟨l,cV⟩:∃ l,km mL.items (lv.take q) nv=l:=⟨_,rfl⟩
            rw[cV] at hP aT ar cS;obtain⟨jn,xi,ce,cg,_⟩:=cS;have eV:jn<nv:=by have h5:=(Lh.1 cg).1;rw[ar,bm.out] at h5;exact h5
            have ee:(jn:Int)<(nv:Int):=by omega
            rw[ce] at yl;have dq:=fE aT;have di:=fE cg;have HP:=fE hP;have dg:=fE ce;have aY:=fE ar;obtain⟨da,du,bC⟩:=aT.p8;replace bC:_=H (J da l.length du):=bC;rw[aY.out,bm.out] at bC;obtain⟨eC,eE⟩:=aT.fz;subst dz;clear hP aT cg cT ar ce cV bi;go_upto_region 27 with(fail);refine mv 16 (by kernel_rfl) (by kernel_rfl) (fun wy hgy=>?_);have bR:=dq.out.fO hgy;obtain⟨gi,dt,ct,fc,_,fb,f9,bj⟩:=bR.arg (m:=mL.gU l) di.out;replace ct:Lg wy ⟨P.g,10,V⟩=H (J (H ⟨gi,0,V⟩) l.length dt):=ct;rw[aY.out,bm.out] at ct;obtain⟨xf,xl⟩:=bR.fz;have ff:=za hgy yl;obtain⟨p1,p2⟩:=bj nv ck
            have dp:Hid (gI P (mL.gU (km mL.items (lv.take (q+1)) nv)) (R0++[j0 s T Av cv]) w8 aG (wy.setCell ⟨gi,jn*7+1,V⟩ (F I (nv:Int)))):=fE (by
             rw[HP.out,dg.out,Lw]
             exact⟨Lq,p1,(bQ.trans (hgy.only aG)).then p2 cF,cF⟩)
            clear bC yl eC eE bR bj p1 p2 ca dZ;simp only[Mm,MN,Mr,Mt]
            repeat still_step
            refine M6 ?_;go_wp2_with(fail);go_roundw;exact⟨q+1,by go_num,by omega,dp⟩;exact gL
           ·obtain rfl:q=lv.length:=by omega
            have ep:¬ ((lv.length:Int)<(lv.length:Int)):=by omega
            have f2:Ll I (dB+1)=dB+1:=iw;obtain⟨z0,z1,z2,z5,z6,z7,z8,z9,aV,zf,zl⟩:=aT.iG;have k9:Hid (gI P ((mL.gU (km mL.items lv nv)).fZ (dB+1)) (R0++[j0 s T Av cv]) w8 aG (MH _ ⟨P.g,9,V⟩ (F I (dB+1)))):=fE (by have h9:=cH.out;rw[MJ] at h9;exact h9.num rfl (fun _ _ _ _ _ _ _ _ _=>rfl))
            have df:Hid (zE P.E (zH P.E (d+1)) (fs0++[s.f]) k s (i:Int) m=(mL.gU (km mL.items lv nv)).fZ (dB+1)):=fE (by
             unfold zE;simp only[dm.out,hX.symm];have e9:=HR.out;have e8:Lb.f=(i:Int):=by rw[a4]
             rw[e8] at e9;rw[e9,aQ.out.depth];simp only[bm.out]
             rw[show m.depth + -(na:Int)=dB from by have h6:=aX.out;omega])
            clear z0 z1 z2 z5 z6 z7 z8 aV;go_wp2_with(fail);have h6:∀ b∈aG,b∈(P.g::(Si++S7))++[]∨w5.heap.size<=b:=fun b hb=>dD b (LW _ hb);have j8:=gI.trans bG.out (by rw[<-ds.out];exact bF.out) (fun b hb=>.inl hb) k9.out;have j6:=gI.from ba j8;have j5:=gI.trans cw.out.st dG h6 j6;rw[MC] at j5;have j4:=gI.trans dr.out.st cm cU j5;have jx:=gI.trans (⟨Ai,ci,Si,As,cs,Ss,bN,rfl⟩:jk P m4 (R0++[j0 s T Av cv]) w4 (P.g::(Si++Ss))) b3 bM j4;have jW:=gI.from (b2.trans hgx) jx;exact MF (v:=.tuple #[]) (by simp[Ly,results257,go_sem]) rfl ⟨rfl,by rw[df.out];exact hB.next jW⟩
end Go.Proofs.YtiihkapmggfjkaaGreat
