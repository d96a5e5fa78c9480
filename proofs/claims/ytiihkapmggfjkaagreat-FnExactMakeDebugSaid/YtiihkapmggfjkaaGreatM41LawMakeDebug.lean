/-
  PART.
-/
import Derived.Test.YtiihkapmggfjkaaGreatM38LawMakeDebug
set_option linter.unusedVariables false
set_option linter.unusedSimpArgs false
set_option maxRecDepth 100000
set_option maxHeartbeats 8000000
namespace Go.Proofs.YtiihkapmggfjkaaGreat
open Value renaming slice->J,int->F,bool->X
open IntKind renaming i64->I,wrap->Ll
open Option renaming none->V,some->H
open Obj renaming cells->C
open Bool renaming false->U,true->M
open Go renaming World->N,results->Ly,Value->LA,Calls->LR,Addr->Mh,yielded->NA
open World renaming cell?->Lg,setCell->MH
open _root_.Int renaming toNat_natCast->Lw
open List renaming length_cons->LJ,set_cons_zero->Mi,length_nil->Mk,take_succ_cons->Mm,set_cons_succ->Mn,getElem_cons_succ->Mu,getElem_cons_zero->Mv,nil_append->Mw,getElem_toArray->My,take_zero->MN
open RowKit renaming intOf->Ml
open Region renaming wanted->MI,ready->MK,Mode->Nz,noSelect->ND,free->Oq
open Tryz
open Go.RowKit
variable {m:fW}{pd:Q Nat}
theorem G5 {E:gd} (h:ia pd m){x:fL}{i line:Int}{chain:Q Int}:jC E (iv pd m) x i line chain=iv pd (jC E m x i line chain):=by
 unfold jC;rw[wj h];rfl
theorem ia.store {E:gd} (h:ia pd m)(x:fL)(i line:Int)(chain:Q Int):ia pd (jC E m x i line chain):=(h.emit _ _ _ _).fZ _
theorem zqd {P:ig} {T:gT} {Z:iM} {v7:LA} {d b:Nat} {s:fL} {W:N} {L:Q Nat} {fs0:Q Int} {g:Int} {k:Nat} (hLW:wM P d)(hR:kX P)(h:kr P T Z v7 pd m (fs0++[s.f]) s W L)(hs:iA P.E s)(hO:nS P.E Z s)(hd3:s.chain.length+(d+1)=3)(hfs:(fs0++[s.f]).length=s.chain.length+1)
  (hm:iq P.E m) (hcnt:m.items.length<200) (hg:isFun P.E.p g) (hrep:zT P.E (fs0++[s.f]) m g=M) (h0:((zU P.E.p g).length:Int)<=m.depth) (h1:m.depth<=iP (d+1)) (hk:k<P.E.p.length) (hk0:zG P.E.p k≠0) (hb:b∈pd/\∀ q∈pd,q<=b) :
  LR prog 269 #[.pointer (H ⟨P.g,0,V⟩),.pointer (H ⟨Z.gs,0,V⟩),F I k,F I g,F I b] W fun r W'=>r=.returned (.tuple #[])/\gE P T Z v7 pd (zE P.E (zH P.E (d+1)) (fs0++[s.f]) k s g m) (fs0++[s.f]) s W L W':=by
 have cd:=fE hfs;clear hfs;obtain⟨i,rfl,x,hx,dV⟩:=hg;have eU:=hR.env.pc.len;have hl:=hR.hl;have eQ:=(Lh.1 hx).1;have cT:=h.2.1.iX.2.2.2.2;have dQ:=hR.up cT;obtain⟨gp,op,x',dY,en,f8,fi,bT,eP,d4,p0,p1,p2,p3,w0,w1,w2,_⟩:=jb dQ eQ;obtain rfl:x'=x:=by rw[hx] at d4;injection d4 with h;exact h.symm
 obtain⟨q0,q1,q2,q3,q4,q5,q6,q7,qf,ql⟩:=jA h.2.2.box;obtain⟨Ai,ci,Af,cf,z0,z2,z5,z6,z7,z8,z9,ca,zf,zl⟩:=h.2.1.cells;obtain⟨e0,cr,fg,dZ,eo,ff,aS,cz⟩:=id h.2.1;clear cz;have cW:=aS.box;obtain⟨oP,aZ⟩:∃ o,o=C #[J P.A P.E.p.length P.c,F I P.b.Frames,F I P.E.inl,X P.b.Fold,X P.b.Split,X P.E.gm,F I P.E.words,F I (iv pd m).gK,J e0 (iv pd m).items.length cr,F I (iv pd m).depth,J dZ (fs0++[s.f]).length eo] 271 (0,0):=⟨_,rfl⟩
 rw[<-aZ] at cW;rw[bT] at z0;have cX:=dQ;rw[bT] at cX;have eD:=h.2.2.chain.read;have aK:=qk hx;have fq:(i:Int)<(P.E.p.length:Int):=by omega
 have eF:=hs.chain.1;obtain⟨ev,dI⟩:∃ e,zJ P.E.p (i:Int)=e:=⟨_,rfl⟩
 have da:=fE dI;have HX:=fE hx;have dj:=fE dV;have bI:=fE aK;have HH:=fE h;have fe:=fE bT;have fd:=fE aZ;clear dI hx dV aK d4 h bT aZ aS p0 p1 p3 q0 q1 q3 q6 q7 qf z2 z5 z6 z8 z9 ca zf w0 w1 w2;go_enter func269,ntmps269;go_upto_region 0 with(fail);go_cut [10] from 10 to 49 (fun v wx=>∃(g3:Nat) (B1 B2:K Mh) (d1 d2:Nat) (S1 S2:Q Nat),v=.pointer (H ⟨g3,0,V⟩)/\J3 zF iH 3 9 W wx (J B1 (s.chain.length+1) d1) (J B2 (zq P.E.p (i:Int)).length d2) (s.chain++[(k:Int)]) (zq P.E.p (i:Int)) S1 S2 g3 (C #[F I (i:Int),F I ev,J B2 (zq P.E.p (i:Int)).length d2,F I x'.fP.length,F I 0,J B1 (s.chain.length+1) d1,F I 0,J V 0 0] 274 (0,0))/\W.heap.size<=g3)
 case first=>
  refine kC (fun w'=>Lg w' ⟨P.g,0,V⟩=H (J (H ⟨gp,op,V⟩) P.E.p.length P.c)/\Lg w' ⟨Z.gs,5,V⟩=H (J T.Ac s.chain.length T.cc)/\Lg w' ⟨gp,op+i*4+2,V⟩=H (J dY x'.fP.length en)) 33 (by kernel_rfl) ⟨zb z0,zb q5,zb p2⟩ (fun hH=>?_);have HJ:=J3.start (T:=zF) (K8:=iH) (e:=3) (f:=9) cW;have HJ:=HJ.fO ((fF.refl _).drew);generalize hYd:W.drew=Wx at HJ hH |-;clear hYd;refine .tq 0 [33] hH ?_;refine .tq 1 [33] hH ?_;refine .tq 2 [33] hH ?_;refine .tq 3 [33] hH ?_;refine .tq 4 [33] hH ?_;refine .tq 5 [33] hH ?_;refine .tq 7 [33] hH ?_;refine .tq 8 [33] hH ?_;refine .tq 9 [33] hH ?_;refine .tq 10 [33] hH ?_;refine .tq 11 [33] hH ?_;refine .tq 13 [33] hH ?_;refine .tq 14 [33] hH ?_;refine .tq 15 [33] hH ?_;refine .tq 16 [33] hH ?_;refine .tq 17 [33] hH ?_;refine .tq 18 [33] hH ?_;refine .tq 19 [33] hH ?_;refine .tq 20 [33] hH ?_;refine .tq 21 [33] hH ?_;refine .tq 23 [33] hH ?_;refine .tq 24 [33] hH ?_;refine .tq 25 [33] hH ?_;refine .tq 26 [33] hH ?_;refine .tq 28 [33] hH ?_;simp only[My,Mu,Mv,Act.put,LS,Mi,Mn];show fX _ _ _ _ _ _ (6+3) _ _ _;refine fX.um [6,12,22,27,29,30] (fun a0 a6 a w=>∃ b6 a7 a8 a4 a9 a3,a6=#[M,M,M,M,M,M,b6,M,M,M,M,M,a7,M,M,M,M,M,M,M,M,M,a8,M,M,M,M,a4,M,a9,a3,U,U,U]/\∃(va vb:LA) (xa:Q Int) (xb:Q D) (Sa Sb:Q Nat) (ge:Nat) (aD ao aE aF aG ap:LA),a=(((((a0.put (H 22) aD).put (H 28) ao).put (H 38) aE).put (H 43) aF).put (H 45) aG).put (H 46) ap/\J3 zF iH 3 9 W w va vb xa xb Sa Sb P.g oP/\(a7=M->b6=M)/\(a4=M->a8=M/\a7=M)/\(a3=M->a4=M/\a9=M)/\(b6=M->aD=F I ev)/\(a7=M->ao=vb/\xb=zq P.E.p (i:Int))/\(a8=M->a4=U->aE=va/\xa = [])/\(a4=M->a3=U->aF=va/\xa=s.chain)/\(a3=M->ap=va/\xa=s.chain++[(k:Int)])/\(a9=M->a3=U->aG=J (H ⟨ge,0,V⟩) 1 1/\w.heap[ge]?=H (C #[F I (k:Int)] 3 (0,0))/\ge∉Sa)) (fun l=>(if !l.getD 6 M then [6] else [])++(if l.getD 6 M && !l.getD 12 M then [12] else [])++(if !l.getD 22 M then [22] else [])++(if l.getD 12 M && (l.getD 22 M && !l.getD 27 M) then [27] else [])++(if !l.getD 29 M then [29] else [])++(if l.getD 27 M && (l.getD 29 M && !l.getD 30 M) then [30] else [])) 3 6 (by decide) ?_ ?_ ?_ (by kernel_rfl) ?_
  ·intro a6 a w hI c7
   obtain⟨b6,a7,a8,a4,a9,a3,rfl,va,vb,xa,xb,Sa,Sb,ge,aD,ao,aE,aF,aG,ap,ha,HJ,ak,al,ae,f6,am,au,av,aJ,an⟩:=hI;clear HJ f6 am au av aJ an ha;cases a3 with
   | true=>
    obtain⟨rfl,rfl⟩:=ae rfl;obtain⟨rfl,rfl⟩:=al rfl;obtain rfl:=ak rfl;exfalso;revert c7;decide
   | false=>
    clear ak al ae c7;cases b6 <;> cases a7 <;> cases a8 <;> cases a4 <;> cases a9
    all_goals exact⟨by kernel_rfl,by decide,by decide⟩
  ·intro a6 a w j hI hj
   obtain⟨b6,a7,a8,a4,a9,a3,rfl,va,vb,xa,xb,Sa,Sb,ge,aD,ao,aE,aF,aG,ap,ha,HJ,ak,al,ae,f6,am,au,av,aJ,an⟩:=hI;simp only[Act.put,LS,Mi,Mn] at ha;subst ha;have hj:(b6=U/\j=6)∨(b6=M/\a7=U/\j=12)∨(a8=U/\j=22)∨(a7=M/\a8=M/\a4=U/\j=27)∨(a9=U/\j=29)∨(a4=M/\a9=M/\a3=U/\j=30):=by simpa[and_assoc] using hj
   have ac:=Ls (HJ.cell z0) (Ls (HJ.cell q5) (HJ.cell p2));obtain⟨A9,c9,rfl⟩:=qQ HJ.ha;obtain⟨B9,d9,rfl⟩:=qQ HJ.hb;rcases hj with⟨cL,rfl⟩ | ⟨cL,aW,rfl⟩ | ⟨az,rfl⟩ | ⟨aW,az,a2,rfl⟩ | ⟨aA,rfl⟩ | ⟨a2,aA,a5,rfl⟩
   ·refine ox rfl (fun Le hK=>?_)
    go_simp;go_at_call 107
    with_reducible refine(za2 (Ty.up _ cX HJ.hg) hl).mono ?_
    rw[da.out];rintro e v ⟨rfl,aM⟩;have HK:=HJ.fO aM;have ac:=Ls (HK.cell z0) (Ls (HK.cell q5) (HK.cell p2));exact hK.out _ _ ⟨fun _=>ac,M,a7,a8,a4,a9,a3,rfl,_,_,_,_,_,_,ge,(F I ev),ao,aE,aF,aG,ap,by simp only[My,Mu,Mv,Act.put,LS,Mi,Mn],HK,(fun _=>rfl),al,ae,(fun _=>rfl),(fun h=>absurd (ak h) (by rw[cL];decide)),au,av,aJ,(fun h h7=>by obtain⟨e1,e2,e3⟩:=an h h7;have h9:=(blt e2);exact⟨e1,zj e2 aM,e3⟩)⟩
   ·have a2:a4=U:=by cases a4 with | false=>rfl | true=>exact absurd (al rfl).2 (by rw[aW];decide)
    refine ox rfl (fun Le hK=>?_);go_simp;go_at_call 190
    with_reducible refine(zg7 (Ty.up _ cX HJ.hg) hl hR.hs).mono ?_
    rintro e v ⟨A8,c8,S8,rfl,es,bo,aM⟩;have HK:=HJ.td aM es bo;have ac:=Ls (HK.cell z0) (Ls (HK.cell q5) (HK.cell p2));exact hK.out _ _ ⟨fun _=>ac,b6,M,a8,a4,a9,a3,rfl,_,_,_,_,_,_,ge,(F I ev),(J A8 (zq P.E.p (i:Int)).length c8),aE,aF,aG,ap,by simp only[My,Mu,Mv,Act.put,LS,Mi,Mn],HK,(fun _=>cL),(fun h=>by rw[a2] at h;cases h),ae,(fun _=>rfl),(fun _=>⟨rfl,rfl⟩),au,av,aJ,(fun h h7=>by obtain⟨e1,e2,e3⟩:=an h h7;have h9:=(blt e2);exact⟨e1,zj e2 aM,e3⟩)⟩
   ·have a2:a4=U:=by cases a4 with | false=>rfl | true=>exact absurd (al rfl).1 (by rw[az];decide)
    have a5:a3=U:=by cases a3 with | false=>rfl | true=>exact absurd (ae rfl).1 (by rw[a2];decide)
    refine ox rfl (fun Le hK=>?_);go_simp;have HK:=HJ.lz;have ac:=Ls (HK.cell z0) (Ls (HK.cell q5) (HK.cell p2));exact hK.out _ _ ⟨fun _=>ac,b6,a7,M,a4,a9,a3,rfl,_,_,_,_,_,_,ge,aD,ao,(J (H ⟨w.heap.size,0,V⟩) 0 0),aF,aG,ap,by simp only[My,Mu,Mv,Act.put,LS,Mi,Mn],HK,ak,(fun h=>by rw[a2] at h;cases h),ae,f6,am,(fun _ _=>⟨rfl,rfl⟩),(fun h=>by rw[a2] at h;cases h),(fun h=>by rw[a5] at h;cases h),(fun h h7=>by obtain⟨e1,e2,e3⟩:=an h h7;have h9:=(blt e2);exact⟨e1,zj e2 ((fF.refl _).alloc _),(by simp;omega)⟩)⟩
   ·obtain⟨rfl,rfl⟩:=au az a2
    have a5:a3=U:=by cases a3 with | false=>rfl | true=>exact absurd (ae rfl).1 (by rw[a2];decide)
    refine ox rfl (fun Le hK=>?_);refine uv (L:=s.chain.length) rfl (.tmp 38) (.tmp 42) kJ zP HJ.ha (Ty.up _ eD HJ.hg) rfl rfl rfl (Mb _).symm (by omega) (by omega) ?_;intro B1 d1 W1 S1 aO bP b5;rw[Mw] at bP;have HK:=HJ.nj aO bP b5;have ac:=Ls (HK.cell z0) (Ls (HK.cell q5) (HK.cell p2));exact hK.out _ _ ⟨fun _=>ac,b6,a7,a8,M,a9,a3,rfl,_,_,_,_,_,_,ge,aD,ao,(J A9 ([]:Q Int).length c9),(J B1 s.chain.length d1),aG,ap,by simp only[My,Mu,Mv,Act.put,LS,Mi,Mn],HK,ak,(fun _=>⟨az,aW⟩),(fun h=>by rw[a5] at h;cases h),f6,am,(fun _ h=>by cases h),(fun _ _=>⟨rfl,rfl⟩),(fun h=>by rw[a5] at h;cases h),(fun h h7=>by obtain⟨e1,e2,e3⟩:=an h h7;have h9:=(blt e2);exact⟨e1,(aO.block ge h9 e3).trans e2,(fun hm=>(b5 ge hm).elim e3 (fun h=>by omega))⟩)⟩
   ·have a5:a3=U:=by cases a3 with | false=>rfl | true=>exact absurd (ae rfl).2 (by rw[aA];decide)
    refine ox rfl (fun Le hK=>?_);go_simp;have HK:=HJ.fO ((fF.refl w).alloc (C #[F I (k:Int)] 3));have ac:=Ls (HK.cell z0) (Ls (HK.cell q5) (HK.cell p2));exact hK.out _ _ ⟨fun _=>ac,b6,a7,a8,a4,M,a3,rfl,_,_,_,_,_,_,_,aD,ao,aE,aF,(J (H ⟨w.heap.size,0,V⟩) 1 1),ap,by simp only[My,Mu,Mv,Act.put,LS,Mi,Mn],HK,ak,al,(fun h=>by rw[a5] at h;cases h),f6,am,au,av,(fun h=>by rw[a5] at h;cases h),(fun _ _=>⟨rfl,Lp _ _,fun hm=>by have:=HJ.ha.lt _ hm;omega⟩)⟩
   ·obtain⟨rfl,rfl⟩:=av a2 a5
    obtain⟨rfl,e2,e3⟩:=an aA a5;refine ox rfl (fun Le hK=>?_);have bx:zF.R w w.heap.size [F I (k:Int)] (k:Int):=⟨rfl,by omega,by omega⟩
    refine zO (L:=s.chain.length+1) rfl (.tmp 43) (.tmp 45) kJ zP HJ.ha bx rfl rfl rfl (by intro j u hu;rw[MD w ge _ _ _ (0,0) e2];simpa using hu) rfl (by omega) (by omega) ?_;intro B1 d1 W1 S1 aO bP b5;have HK:=HJ.nj aO bP b5;have ac:=Ls (HK.cell z0) (Ls (HK.cell q5) (HK.cell p2));exact hK.out _ _ ⟨fun _=>ac,b6,a7,a8,a4,a9,M,rfl,_,_,_,_,_,_,ge,aD,ao,aE,(J A9 s.chain.length c9),(J (H ⟨ge,0,V⟩) 1 1),(J B1 (s.chain.length+1) d1),by simp only[My,Mu,Mv,Act.put,LS,Mi,Mn],HK,ak,al,(fun _=>⟨a2,aA⟩),f6,am,(fun _ h=>by rw[a2] at h;cases h),(fun _ h=>by cases h),(fun _=>⟨rfl,rfl⟩),(fun _ h=>by cases h)⟩
  ·intro a6 a w hI c7
   obtain⟨b6,a7,a8,a4,a9,a3,rfl,va,vb,xa,xb,Sa,Sb,ge,aD,ao,aE,aF,aG,ap,ha,HJ,ak,al,ae,f6,am,au,av,aJ,an⟩:=hI;simp only[Act.put,LS,Mi,Mn] at ha;subst ha
   have cJ:b6=M/\a7=M/\a8=M/\a4=M/\a9=M/\a3=M:=by
    revert c7;clear ak al ae f6 am au av aJ an HJ;cases b6 <;> cases a7 <;> cases a8 <;> cases a4 <;> cases a9 <;> cases a3 <;> decide
   obtain⟨rfl,rfl,rfl,rfl,rfl,rfl⟩:=cJ;obtain⟨rfl,rfl⟩:=aJ rfl;obtain⟨rfl,rfl⟩:=am rfl;obtain rfl:=f6 rfl;obtain⟨A9,c9,rfl⟩:=qQ HJ.ha;obtain⟨B9,d9,rfl⟩:=qQ HJ.hb;simp only[Lj,LJ,Mk,Mb] at HJ |-;have ac:=Ls (HJ.cell z0) (Ls (HJ.cell q5) (HJ.cell p2));clear ak al ae f6 am au av aJ an;refine .tq 31 [32,33] ac ?_;refine fX.one (i:=32) (by kernel_rfl) rfl (fun Le hK=>?_);go_simp;have eB:=HJ.hg.size;have HJ:=HJ.kN (cs:=#[F I (i:Int),F I ev,J B9 (zq P.E.p (i:Int)).length d9,F I x'.fP.length,F I 0,J A9 (s.chain.length+1) c9,F I 0,J V 0 0]) (t:=274);refine hK.out _ _ ⟨HJ.cell z0,HJ.cell q5,HJ.cell p2⟩ (fun hI=>?_);clear hK hI
   try simp only[lay]
   refine fX.last (by kernel_rfl) rfl (by kernel_rfl) (fun Le hK=>?_);go_simp;refine hK.out _ _ ?_;clear hK
   try simp only[lay]
   go_wp2_with(fail);go_meet;exact⟨_,A9,B9,c9,d9,Sa,Sb,rfl,HJ,eB⟩
  ·exact⟨U,U,U,U,U,U,rfl,_,_,_,_,_,_,0,undef,undef,undef,undef,undef,undef,by simp only[Act.put,LS,Mi,Mn],HJ,(fun h=>by cases h),(fun h=>by cases h),(fun h=>by cases h),(fun h=>by cases h),(fun h=>by cases h),(fun h=>by cases h),(fun h=>by cases h),(fun h=>by cases h),(fun h=>by cases h)⟩
 case rest=>
  obtain⟨g3,B1,B2,d1,d2,S1,S2,rfl,HJ,bv⟩:=hcut;clear q4 q5 z0 z7 p2 cW;have b4:=HH.out.fO HJ.hg;obtain⟨q0,q1,q2,q3,q4,q5,q6,q7,qf,ql⟩:=jA b4.2.2.box;obtain⟨t0,t1,t2,t3,t4,t5,t6,t7,tf,tl⟩:=jA HJ.ho;have cQ:=hs.first;have eV:=hs.locals.2;have eJ:=hR.env.args;obtain⟨a1,ht⟩:∃ t,m9 P.E s=t:=⟨_,rfl⟩
  obtain⟨f1,cO⟩:∃ f,s.first+(s.locals.length:Int)=f:=⟨_,rfl⟩
  have fw:Ll I (s.first+(s.locals.length:Int))=f1:=by rw[cO];exact kt (by omega)
  have cZ:Ll I f1=f1:=kt (by omega);have cb:=fE cO;have HT:=fE ht;have cP:0<=f1/\f1<=60:=⟨by omega,by omega⟩
  have dd:=fE HJ;clear ht cO b4 HJ q0 q1 q3 q5 q6 q7 t0 t1 t2 t3 t4 t5 t6 t7;go_upto_region 1 with(fail);refine mv 13 (by kernel_rfl) (by kernel_rfl) (fun wx hgx=>?_);have q2:=za hgx q2;have q4:=za hgx q4;have ar:=dd.out.fO hgx;obtain⟨_,_,_,_,_,_,_,_,tf,tl⟩:=jA ar.ho;simp only[Mm,MN,Mr,Mt]
  repeat still_step
  refine M6 ?_;have aH:=ar.store ((fJ.refl _ _).setCell (p:=⟨g3,4,V⟩) (by simp) (F I f1)) (jo (i:=4) (v:=F I f1) ar.ho rfl) bv;simp only[LS,Mi,Mn] at aH;clear q2 q4 ar dd;go_upto_region 2 with(fail);generalize MH wx ⟨g3,4,V⟩ (F I f1)=W1 at aH |-;have b4:=HH.out.fO aH.hg;obtain⟨q0,q1,q2,q3,q4,q5,q6,q7,qf,ql⟩:=jA b4.2.2.box;have HO:=fE hO;rcases hO with⟨ho,dD,d5,dJ⟩ | ⟨ho,fl⟩
  case' inl=>
   have bs:s.chain.length=0:=by rw[dD];rfl
   have b1:f1-Z.args=a1:=by rw[<-cb.out,<-HT.out,d5,dJ];unfold m9;rw[Lu ho];omega
   have oe:=(hs.outer ho).2.2;have dU:0<=a1/\a1<=60:=by have h9:=cb.out;rw[d5] at b1;omega
   have f5:Ll I (f1-Z.args)=a1:=by rw[b1];exact kt (by omega)
   have bG:Ll I a1=a1:=kt (by omega);have db:=fE aH;rw[bs] at q5;clear dD bs d5 dJ ho b1 oe aH b4 q0 q1 q6 q7;go_upto_region 3 with(fail);refine mv 18 (by kernel_rfl) (by kernel_rfl) (fun wy hgy=>?_);have q2:=za hgy q2;have q3:=za hgy q3;have q4:=za hgy q4;have ar:=db.out.fO hgy;obtain⟨_,_,_,_,_,_,_,_,tf,tl⟩:=jA ar.ho;simp only[Mm,MN,Mr,Mt]
   repeat still_step
   refine M6 ?_;have ab:=ar.store ((fJ.refl _ _).setCell (p:=⟨g3,4,V⟩) (by simp) (F I a1)) (jo (i:=4) (v:=F I a1) ar.ho rfl) bv;simp only[LS,Mi,Mn] at ab;clear ar db q2 q3 q4 q5;go_upto_region 4 with(fail);clear tf tl f5 qf ql;generalize MH wy ⟨g3,4,V⟩ (F I a1)=W2 at ab |-
  case' inr=>
   have cM:((s.chain.length:Int) == 0)=U:=Lk.2 (by omega);obtain rfl:f1=a1:=by rw[<-cb.out,<-HT.out];unfold m9;rw[Lt (by rw[ho];decide)]
   have dU:0<=f1/\f1<=60:=cP;have bG:Ll I f1=f1:=cZ;clear ho b4 q0 q1 q2 q3 q4 q6 q7;go_upto_region 4 with(fail);obtain⟨W2,dz⟩:∃ W2,W1=W2:=⟨_,rfl⟩
   rw[dz] at aH |-;have ab:=aH;obtain⟨a1,f3⟩:∃ a1,f1=a1:=⟨_,rfl⟩
   rw[f3] at ab dU bG HT |-;clear aH dz cM q5 qf ql
  all_goals
   have bg:=ab.hg
   have cu:=HH.out.fO bg
   obtain⟨Lb,hX⟩:∃ Lb:fL,Lb=kS P.E (i:Int) k s:=⟨_,rfl⟩
   have ah:Lb=⟨(i:Int),s.chain++[(k:Int)],zq P.E.p (i:Int),a1,U,[]⟩:=by rw[hX];unfold kS;rw[HT.out]
   have cR:isFun P.E.p (i:Int):=⟨i,rfl,x',HX.out,dj.out⟩
   have bz:0<=(k:Int)/\(k:Int)<P.E.p.length:=⟨by omega,by omega⟩
   have bX:iA P.E Lb:=by rw[hX];exact wL hR.env hs cR bz (by omega)
   have aa:=cR.parts hR.env
   have dm:=h0
   rw[bI.out] at aa dm
   obtain⟨na,bD⟩:∃ n,x'.fP.length=n:=⟨_,rfl⟩
   obtain⟨nl,c5⟩:∃ n,(zq P.E.p (i:Int)).length=n:=⟨_,rfl⟩
   rw[bD,c5] at aa
   rw[bD] at dm
   obtain⟨ft,f0,fu⟩:=aa
   have eE:iP (d+1)<=900:=by unfold iP;omega
   have cB:=HH.out.2.1.iX.2.2.1
   have aB:g3∉L:=fun hm=>by have:=cB _ hm;omega
   have bi:iU ⟨B1,d1,S1,B2,d2,S2⟩ ⟨g3,ev,x'.fP.length,0⟩ Lb (J V 0 0) W2 L:=⟨by rw[ah];simpa using ab.ho,by rw[ah];simpa using ab.ha,by rw[ah];exact ab.hb,aB,fun b hb hm=>by have h8:=cB b hm;have h9:=ab.la b hb;omega,fun b hb hm=>by have h8:=cB b hm;have h9:=ab.lb b hb;omega⟩
   have bQ:=ab.ho
   rw[bD,c5] at bQ
   have aC:g3∉S1/\g3∉S2:=⟨ab.oe,ab.tc⟩
   have cn:=fE bD
   have df:=fE c5
   obtain⟨_,_,t2,_,t4,_,_,_,_,_⟩:=jA bQ
   obtain⟨_,_,_,_,_,_,_,_,z7,_,_,_,zf,zl⟩:=cu.2.1.cells
   replace z7:Lg W2 ⟨P.g,7,V⟩=H (F I m.gK):=z7
   obtain⟨ms,c3⟩:∃ v,max m.gK (a1+(nl:Int))=v:=⟨_,rfl⟩
   have eX:(if m.gK<a1+(nl:Int) then a1+(nl:Int) else m.gK)=ms:=by rw[<-c3];split <;> omega
   have dO:max m.gK (a1+(nl:Int))=ms:=c3
   have fx:Ll I (a1+(nl:Int))=a1+(nl:Int):=kt (by omega)
   have eh:=fE c3
   have e6:=fE cu
   have ch:=fE bi
   have ec:=fE bQ
   clear ab cu bi bQ bD c5 c3
   refine mv 18 (by kernel_rfl) (by kernel_rfl) (fun wz hgz=>?_)
   have z7:=za hgz z7
   have t2:=za hgz t2
   have t4:=za hgz t4
   have bd:=e6.out.fO hgz
   obtain⟨_,_,_,_,_,_,_,_,_,_,_,_,zf,zl⟩:=bd.2.1.cells
   simp only[Mm,MN,Mr,Mt]
   repeat still_step
   refine M6 ?_
   obtain⟨aU,af⟩:=bd.2.1.num (i:=7) (v:=F I ms) (m':=iv pd (m.iY ms)) rfl (fun _ _ _ _ _ _ _ _ _=>rfl)
   have be:kr P T Z v7 pd (m.iY ms) (fs0++[s.f]) s (wz.setCell ⟨P.g,7,V⟩ (F I ms)) L:=⟨bd.1.iY ms,aU,bd.2.2.next af (fun b hb=>.inl hb)⟩
   have ad:=(ch.out.fO hgz).next af (fun b hb=>.inl hb)
   have ay:=lO af aB (zj ec.out hgz)
   have ea:=fE (bg.trans hgz)
   clear bd aU z7 t2 t4
   go_upto_region 5 with(fail)
   clear zf zl
   generalize MH wz ⟨P.g,7,V⟩ (F I ms)=W5 at be af ad ay |-
   obtain⟨t0,t1,t2,t3,t4,t5,t6,t7,tf,tl⟩:=jA ay
   obtain⟨q0,q1,q2,q3,q4,q5,q6,q7,qf,ql⟩:=jA be.2.2.box
   clear t0 t1 t3 t5 t6 t7 tf q0 q1 q2 q3 q4 q6 q7 qf
   go_region_held3 (fun w'=>Lg w' ⟨g3,2,V⟩=H (J B2 nl d2)/\Lg w' ⟨g3,4,V⟩=H (F I a1)/\Lg w' ⟨Z.gs,5,V⟩=H (J T.Ac s.chain.length T.cc)) ((repeat' apply Ls) <;> (first | ((repeat (first | assumption | with_reducible refine zC ?_ _ _ | with_reducible refine zo ?_ _ | with_reducible refine zb ?_));done) | (simp[go_sem];done))) (fail)
   go_upto_region 6 with(fail)
   have bh:fF W5 (World.drew (W5.alloc (C #[F I 0,F I 0,J B2 nl d2,F I 0,F I a1,J T.Ac s.chain.length T.cc,F I 0,J V 0 0] 274))):=((fF.refl _).alloc _).drew
   have bM:(World.drew (W5.alloc (C #[F I 0,F I 0,J B2 nl d2,F I 0,F I a1,J T.Ac s.chain.length T.cc,F I 0,J V 0 0] 274))).heap[W5.heap.size]?=H (C #[F I 0,F I 0,J B2 nl d2,F I 0,F I a1,J T.Ac s.chain.length T.cc,F I 0,J V 0 0] 274 (0,0)):=zj (Lp W5 _) ((fF.refl _).drew)
   generalize World.drew (W5.alloc _)=W6 at bM bh |-
   obtain⟨g4,eL⟩:∃ g,W5.heap.size=g:=⟨_,rfl⟩
   have cy:=be.2.1.iX.2.2.1
   rw[eL] at bM cy |-
   have bf:=be.fO bh
   have ax:=ad.fO bh
   have bn:iU ⟨T.Ac,T.cc,T.Sc,B2,d2,S2⟩ ⟨g4,0,0,0⟩ ⟨0,s.chain,zq P.E.p (i:Int),a1,U,[]⟩ (J V 0 0) W6 L:=⟨by simpa only[df.out] using bM,bf.2.2.chain,by have h9:=ax.locals;rw[ah] at h9;exact h9,fun hm=>NH _ (cy _ hm),bf.2.2.dc,ax.dl⟩
   have aR:=fE (zj ay bh)
   have fb:=fE bf
   have ck:=fE ax
   have b9:=fE bn
   have ei:=fE (gE.refl bf)
   have cY:s.chain.length<=1000:=by omega
   have bx:fV (k:Int):=iu (by omega)
   have cq:fV 0:=iu (by omega)
   have aP:∀(W':N) (m':fW) (L':Q Nat) (j:Int),kr P T Z v7 pd m' (fs0++[s.f]) s W' L'->iU ⟨T.Ac,T.cc,T.Sc,B2,d2,S2⟩ ⟨g4,0,0,0⟩ ⟨0,s.chain,zq P.E.p (i:Int),a1,U,[]⟩ (J V 0 0) W' L'->(m'.items.length<=100000/\(0<=j/\j<=100)/\(-1000000<=m'.depth/\m'.depth<=1000000))->
     LR prog 272 #[.pointer (H ⟨P.g,0,V⟩),.pointer (H ⟨g4,0,V⟩),F I (k:Int),F I j] W' fun r W2=>r=.returned (.tuple #[])/\gE P T Z v7 pd (jC P.E m' Lb j k s.chain) (fs0++[s.f]) s W' L' W2:=fun W' m' L' j hS hc hb=>by
    have h9:=ztg (x:=Lb) (i:=j) (line:=(k:Int)) hS.2.1 rfl hc (by rw[ah]) (by rw[ah]) cY (by rw[lN];exact hb.1) hb.2.1 hb.2.2 ⟨by show -1000<=a1;omega,by show a1<=1000;omega⟩ ⟨eJ.1,by omega⟩ bx;refine h9.mono fun r w2 hh=>⟨hh.1,?_⟩;have h8:=hh.2;rw[G5 hS.1] at h8;exact hS.put (hS.1.store Lb j k s.chain) h8
   have fy:Ll I ((na:Int)-1)=(na:Int)-1:=kt (by omega)
   obtain⟨_,_,_,t3,_,_,_,_,d6,d7⟩:=jA aR.out
   clear t2 t4 q5 be ad ay bM bf ax bn cy d6
   go_wp2_with(fail)
   go_loopw [12] (fun z wr=>∃(zi:Int) (q:Nat) (mq:fW),z=F I zi/\zi+1=(q:Int)/\q<=na/\Hid (gE P T Z v7 pd mq (fs0++[s.f]) s W6 L wr)/\Hid (nP P.E Lb k s.chain q mq=nP P.E Lb k s.chain na (m.iY ms))/\Hid (iq P.E mq)/\mq.depth=m.depth-((na-q:Nat):Int)/\mq.items.length<=200+(na-q)) (fun z _=>(Ml z+1).toNat)
   case atStart=>exact⟨(na:Int)-1,na,m.iY ms,by go_num,by omega,Lz _,ei,fE rfl,fE ⟨hm.its,hm.pos⟩,by show m.depth=_;simp,by show m.items.length<=_;omega⟩
   case round=>
    obtain⟨zi,q,mq,rfl,dW,fv,hN,hA,du,dG,eH⟩:=hrel;have f7:Ll I (zi-1)=zi-1:=kt (by omega);obtain⟨L1,b5,cC,dt⟩:=hN.out;by_cases hz0:0<=zi
    ·obtain⟨j,rfl⟩:=M1 hz0
     obtain rfl:q=j+1:=by omega
     have eM:(j:Int)≥0:=hz0;have cG:=b9.out.next cC dt;have cK:mq.items.length<=100000/\(0<=(j:Int)/\(j:Int)<=100)/\(-1000000<=mq.depth/\mq.depth<=1000000):=⟨by omega,⟨by omega,by omega⟩,by omega,by omega⟩
     have b0:=te (n0:=0) (i:=(j:Int)) (line:=(k:Int)) (chain:=s.chain) hR.env bX du.out ⟨by omega,by omega⟩ ⟨by omega,by omega⟩ bz hs.chain;have bb:=fE b0;have ep:Hid (nP P.E Lb k s.chain j (jC P.E mq Lb j k s.chain)=nP P.E Lb k s.chain na (m.iY ms)):=fE (by rw[<-hA.out];rfl);clear b0 hz0 dW;go_wp2_with(first | (go_at_call 272;(with_reducible refine(aP _ _ _ _ b5 cG cK).mono ?_);rintro e w2 ⟨rfl,h2⟩));go_roundw
     case measure=>exact gL
     case rel=>
      have h7:=bb.out.cnt;have h8:=bb.out.depth;exact⟨(j:Int)-1,j,_,by go_num,by omega,by omega,fE (gE.trans cC dt h2),ep,fE bb.out.ok,by omega,by omega⟩
    ·have eM:¬ (zi≥0):=hz0
     have eN:¬ (0<=zi):=hz0;obtain rfl:q=0:=by omega
     have e4:Hid (nP P.E Lb k s.chain na (m.iY ms)=mq):=fE (by rw[<-hA.out];rfl);obtain⟨_,_,_,t3,_,_,_,_,d6,d7⟩:=jA (lO cC aB aR.out);clear hz0 dW hA f7 d6;go_wp2_with(fail);go_loopw [13] (fun z wi=>∃(j:Nat) (mz:fW),z=F I j/\na<=j/\j<=nl/\Hid (gE P T Z v7 pd mz (fs0++[s.f]) s W6 L wi)/\Hid (oS P.E Lb k s.chain (nl-j) j mz=oS P.E Lb k s.chain (nl-na) na mq)/\Hid (iq P.E mz)/\mz.depth=m.depth-(na:Int)/\mz.items.length<=200+na+2*(j-na)) (fun z _=>nl-(Ml z).toNat)
     case atStart=>exact⟨na,mq,rfl,Lz _,f0,hN,fE rfl,du,by rw[dG,Nat.sub_zero],by omega⟩
     case round=>
      obtain⟨j,mz,rfl,fr,fs,dx,hZ,ew,dH,fo⟩:=hrel;obtain⟨L3,ag,bR,cx⟩:=dx.out;obtain⟨_,_,t2,_,_,_,_,_,_,d7⟩:=jA (lO bR aB aR.out);by_cases hjl:j<nl
      ·have eR:(j:Int)<(nl:Int):=by omega
       obtain⟨_,_,_,_,_,q5,_,_,_,ql⟩:=jA ag.2.2.box;have bY:=ag.2.2.chain.read;have bc:=ag.2.1;have c2:(iv pd mz).items.length<=100000:=by rw[lN];omega
       have c0:fV (iv pd mz).depth:=iu (by show -9223372036854775808<=mz.depth/\mz.depth<=9223372036854775807;omega);have bZ:fV ((iv pd mz).depth+1):=iu (by show -9223372036854775808<=mz.depth+1/\mz.depth+1<=9223372036854775807;omega);have c6:=vK (n0:=0) (v:=0) (line:=(k:Int)) (chain:=s.chain) ew.out ⟨by omega,by omega⟩ ⟨by omega,by omega⟩ bz hs.chain;have h7:=c6.cnt;have h8:=c6.depth;have cK:(zZ P.E mz 0 k s.chain).items.length<=100000/\(0<=(j:Int)/\(j:Int)<=100)/\(-1000000<=(zZ P.E mz 0 k s.chain).depth/\(zZ P.E mz 0 k s.chain).depth<=1000000):=⟨by omega,⟨by omega,by omega⟩,by omega,by omega⟩
       have b0:=te (n0:=0) (i:=(j:Int)) (line:=(k:Int)) (chain:=s.chain) hR.env bX c6.ok ⟨by omega,by omega⟩ ⟨by omega,by omega⟩ bz hs.chain;have h5:=b0.cnt;have h6:=b0.depth;have bb:=fE b0;have HD:=fE (show (jC P.E (zZ P.E mz 0 k s.chain) Lb j k s.chain).depth=m.depth-(na:Int) from by omega);have HC:=fE (show (jC P.E (zZ P.E mz 0 k s.chain) Lb j k s.chain).items.length<=200+na+2*(j+1-na) from by omega);have eC:Hid (oS P.E Lb k s.chain (nl-(j+1)) (j+1) (jC P.E (zZ P.E mz 0 k s.chain) Lb j k s.chain)=oS P.E Lb k s.chain (nl-na) na mq):=fE (by rw[<-hZ.out,show nl-j=(nl-(j+1))+1 from by omega];rfl);clear b0 c6 h5 h6 h7 h8;go_upto_region 14 with(first | (go_at_call 248;(with_reducible refine(zd4 bc rfl q5 bY cY c2 cq cq bx c0 bZ).mono ?_);rintro e w2 ⟨rfl,h2⟩));have cI:=ag.add (fF.refl _) h2 (show (iv pd mz).depth+1=mz.depth+1 from rfl);replace cI:gE P T Z v7 pd (zZ P.E mz 0 k s.chain) (fs0++[s.f]) s _ L3 w2:=cI;obtain⟨L4,aU,af,bj⟩:=cI;have cF:=(b9.out.next bR cx).next af bj;go_wp2_with(first | (go_at_call 272;(with_reducible refine(aP _ _ _ _ aU cF cK).mono ?_);rintro e w3 ⟨rfl,h3⟩));go_roundw;exact⟨j+1,_,by go_num,by omega,by omega,fE (gE.trans bR cx (gE.trans af bj h3)),eC,fE bb.out.ok,HD.out,HC.out⟩;exact gL
      ·obtain rfl:j=nl:=by omega
       have eR:¬ ((j:Int)<(j:Int)):=by omega
       have di:Hid (fJ L W W6):=fE (((ea.out.only L).trans af).trans (bh.only L));obtain⟨m4,bC⟩:∃ m4,nG P.E (i:Int) k s m=m4:=⟨_,rfl⟩
       have hH:m4=if mz.start=M then zv P.E mz 15 0 k s.chain else mz:=by
        have e1:(kS P.E (i:Int) k s)=Lb:=hX.symm;have e2:Lb.locals.length=j:=by rw[ah];exact df.out
        rw[<-bC];unfold nG;simp only[e1,e2,bI.out,cn.out,HT.out,eh.out,e4.out];rw[<-hZ.out,Mq];rfl
       have cv:=xQ (n0:=200) hR.env hs cR bz hk0 (by omega) hm (by rw[bI.out,cn.out];omega) (by omega);rw[bC,bI.out,cn.out] at cv;have cg:=fE cv;have ek:Hid (m4.start=U):=fE (by rw[<-bC];exact BM _ _ _ _ _);have eg:=fE bC;have bc:=ag.2.1;have br:mz.start=M↔mz.items.length=b:=⟨fun h=>Nat.le_antisymm (hb.2 _ (ag.1.st.1 h)) (ag.1.le _ hb.1),fun h=>ag.1.st.2 (by rw[h];exact hb.1)⟩
       obtain⟨fa,fk,f9,fj,_,_,_,_,_,z8,z9,_,zf,zl⟩:=bc.cells;rw[lN] at z8;obtain⟨_,_,_,_,_,q5,_,_,_,ql⟩:=jA ag.2.2.box;have bY:=ag.2.2.chain.read;have c2:(iv pd mz).items.length<=100000:=by rw[lN];omega
       have c0:fV (iv pd mz).depth:=iu (by show -9223372036854775808<=mz.depth/\mz.depth<=9223372036854775807;omega);have bZ:fV ((iv pd mz).depth+0):=iu (by show -9223372036854775808<=mz.depth+0/\mz.depth+0<=9223372036854775807;omega);have dk:fV 15:=iu (by omega);obtain⟨dB,cN⟩:∃ v,m.depth-(na:Int)=v:=⟨_,rfl⟩
       rw[cN] at dH;have bK:=fE cN;have eI:0<=dB/\dB<=900:=⟨by omega,by omega⟩
       obtain⟨sb,dT⟩:∃ b,mz.start=b:=⟨_,rfl⟩
       have ba:=fE dT;have ce:=fE hH;have aQ:=fE br;clear cv bC dH cN hH h0 dG eH br dT t3 z9;cases sb
       case' false=>
        have dA:((mz.items.length:Int) == (b:Int))=U:=Lk.2 (fun h=>by have h9:=aQ.out.2 (by omega);rw[ba.out] at h9;cases h9);have HE:Hid (m4=mz):=fE (by rw[ce.out,ba.out,Lt (by decide)]);have de:Hid (gE P T Z v7 pd m4 (fs0++[s.f]) s W6 L wr):=fE (by rw[HE.out];exact dx.out);obtain⟨w4,rfl⟩:∃ w4,w4=wr:=⟨_,rfl⟩
        go_upto_region 17 with(fail)
       case' true=>
        have dA:((mz.items.length:Int) == (b:Int))=M:=LM.2 (by have h9:=aQ.out.1 ba.out;omega);have HE:Hid (m4=(zv P.E mz 15 0 k s.chain).fZ mz.depth):=fE (by rw[ce.out,ba.out,Lu rfl];rfl);go_upto_region 17 with(first | (go_at_call 248;(with_reducible refine(zd4 bc rfl q5 bY cY c2 dk cq bx c0 bZ).mono ?_);rintro e w4 ⟨rfl,h4⟩));have de:Hid (gE P T Z v7 pd m4 (fs0++[s.f]) s W6 L w4):=fE (by rw[HE.out];exact gE.trans bR cx (ag.add (fF.refl _) h4 (show (iv pd mz).depth+0=mz.depth from by show mz.depth+0=mz.depth;omega)));clear h4
       all_goals
        clear t2 d7 dA HE ce ba aQ z8 zf zl q5 ql bY bc c2 c0 bZ dk
        obtain⟨L4,aU,af,bj⟩:=de.out
        have bw:=cg.out
        have dF:m4.depth=dB:=by have h5:=bw.depth;have h6:=bK.out;omega
        have fm:=bw.cnt
        have aw:=ck.out.next af bj
        have ct:=aU.2.1
        obtain⟨_,_,_,_,_,_,_,_,_,_,z9,_,zf,zl⟩:=ct.cells
        replace z9:Lg w4 ⟨P.g,9,V⟩=H (F I m4.depth):=z9
        rw[dF] at z9
        obtain⟨_,_,_,_,_,_,_,_,tf,tl⟩:=jA aw.box
        obtain⟨ad,cD⟩:=aw.base aC.1 aC.2 dB
        have bq:P.Y.heap.size<=g3:=LO HH.out.2.1.iX.2.2.2.2.size bv
        have dp:=ct.fU cD (fun q hq=>by simp only[Lr] at hq;subst hq;exact⟨aw.dg,bq⟩)
        have aq:=fE ad
        have d8:=fE dp
        clear ad dp aw ct
        go_upto_region 18 with(fail)
        clear z9 zf zl tf tl
        have dh:Hid (fJ [g3] w4 (MH w4 ⟨g3,6,V⟩ (F I dB))):=fE cD
        clear cD
        replace aq:Hid (iU ⟨B1,d1,S1,B2,d2,S2⟩ ⟨g3,ev,x'.fP.length,dB⟩ Lb (J V 0 0) (MH w4 ⟨g3,6,V⟩ (F I dB)) L4):=aq
        generalize MH w4 ⟨g3,6,V⟩ (F I dB)=w5 at dh aq d8 |-
        obtain⟨Ai,ci,Si,Af,cf,Sf,aS,rfl⟩:=id d8.out
        obtain⟨nf,c4⟩:∃ n,(fs0++[s.f]).length=n:=⟨_,rfl⟩
        have b2:=fE c4
        have fp:nf<=10:=by have h9:=cd.out;omega
        obtain⟨_,_,_,_,_,_,_,_,_,_,ca,zf,zl⟩:=oX aS.box
        rw[c4] at ca
        have aX:=aS.ins
        rw[c4] at aX
        have bO:fF w5 (w5.alloc (C #[F I (i:Int)] 3)):=(fF.refl _).alloc _
        have dS:zF.R (w5.alloc (C #[F I (i:Int)] 3)) (w5.alloc (C #[F I (i:Int)] 3)).heap.size [F I (i:Int)] (i:Int):=⟨rfl,by omega,by omega⟩
        have aN:=aX.fO bO
        have bJ:=fE (aS.grow bO)
        clear aX aS c4
        go_upto_region 19 with(first | (at_builtin;refine zr (L:=nf+1) rfl (.tmp 176) (.tmp 178) kJ zP aN dS rfl rfl rfl (by intro j u hu;simpa[go_sem] using hu) rfl (by omega) (by omega) ?_;intro A9 c9 w9 S9 aO dr b7;have dC:=(aO.block P.g (blt bJ.out.box) bJ.out.gn.2).trans bJ.out.box;obtain⟨_,_,_,_,_,_,_,_,_,_,_,zf,zl⟩:=oX dC;clear dC))
        clear ca zf zl aN dS
        have dM:(fs0++[s.f]++[(i:Int)]).length=nf+1:=by rw[Lj,b2.out];rfl
        have cw:=bJ.out.inside (fs':=fs0++[s.f]++[(i:Int)]) (A':=A9) (c':=c9) aO (by rw[dM];exact dr) b7
        rw[dM] at cw
        generalize MH w9 ⟨P.g,10,V⟩ (J A9 (nf+1) c9)=w6 at cw |-
        obtain⟨dq,bm⟩:=cw
        have dy:fJ (P.g::(Si++Sf)) w5 w6:=(bO.only _).trans bm
        have dK:∀ q∈P.g::(Si++S9),q∈P.g::(Si++Sf)∨w5.heap.size<=q:=fun q hq=>by
         rcases LU.1 hq with h | hq
         ·exact .inl (by simp[h])
         ·rcases LG.1 hq with hq | hq
          ·exact .inl (by simp[hq])
          ·rcases b7 q hq with h | h
           ·exact .inl (by simp[h])
           ·have h5:=bO.size;exact .inr (by omega)
        have bV:Lb.f=(i:Int):=by rw[ah]
        have bW:Lb.leaves = []:=by rw[ah]
        have aT:=aq.out.next dy dK
        have ds:jF P ⟨B1,d1,S1,B2,d2,S2⟩ ⟨g3,ev,x'.fP.length,dB⟩ pd m4 (fs0++[s.f]++[Lb.f]) Lb w6 V 0 [] (P.g::(Si++S9)):=⟨aU.1,⟨Ai,ci,Si,A9,c9,S9,by rw[bV];exact dq,rfl⟩,by rw[bW];exact aT,by rw[bW];exact Has.nil _ _ _,fun q hq=>by simp at hq,aC.1,aC.2,bq⟩
        obtain⟨e5,bu,_,_⟩:=hR.env.pc.body i x' HX.out dj.out
        have ai:Lb.chain.length=s.chain.length+1:=by rw[ah];simp
        have eZ:Lb.outer=U:=by rw[ah]
        have aL:=hLW ⟨B1,d1,S1,B2,d2,S2⟩ ⟨g3,ev,x'.fP.length,dB⟩ pd m4 Lb w6 (g3::((P.g::(Si++S9))++[])) (fs0++[s.f]) i e5 ⟨V,0,[],_,ds,rfl⟩ bX (.inr ⟨eZ,by rw[ai];omega⟩) bW (by rw[Lj,b2.out,ai];have h9:=cd.out;rw[b2.out] at h9;rw[h9];rfl) (by rw[ai];omega) bw.ok (by omega) bV bu (by show ev=(e5:Int);rw[<-da.out];exact bu.iy) dF.symm ek.out (by omega) (by have h6:=bK.out;omega)
        obtain⟨⟨mL,lv⟩,hr⟩:∃ r,zH P.E (d+1) (fs0++[s.f]++[Lb.f]) Lb m4=r:=⟨_,rfl⟩
        rw[hr] at aL
        have ef:=fE ((uL hR.env d) (fs0++[s.f]++[Lb.f]) Lb m4 i e5 bX bW (by rw[Lj,b2.out,ai];have h9:=cd.out;rw[b2.out] at h9;rw[h9];rfl) (by rw[ai];omega) bw.ok bV bu (by omega) (by have h6:=bK.out;omega))
        have HR:=fE hr
        have e7:=fE bu
        have fc:=fE aT
        clear hr ds bu dq aT dr b7 aO bm
        go_upto_region 20 with(first | (go_at_call 249;(with_reducible refine aL.mono ?_);rintro e w7 ⟨rfl,dep,h7⟩))
        obtain⟨L7,⟨Aj,cj,Sj,aI,dn,rfl⟩,ey,et⟩:=h7
        have d0:Ll I ((nf:Int)+1-1)=(nf:Int):=by rw[M7];exact kt (by omega)
        have d3:Ll I (nf:Int)=(nf:Int):=kt (by omega)
        refine mv 14 (by kernel_rfl) (by kernel_rfl) (fun w8 aM=>?_)
        have bN:=dn.fO aM
        obtain⟨A8,c8,dX,dE,bE,bo,cE⟩:=bN.st.pop
        rw[b2.out] at dX bE bo cE dE
        obtain⟨_,_,_,_,_,_,_,_,_,_,_,_,xf,xl⟩:=bN.st.cells
        have b8:=fE bN
        have bL:=fE bo
        have b3:=fE cE
        clear dn bN bo cE
        simp only[Mm,MN,Mr,Mt]
        repeat still_step
        refine M6 ?_
        go_upto_region 21 with(fail)
        clear dX xf xl bE dE d0 d3
        replace bL:Hid (jI P (iv pd (mL.fZ dep)) (fs0++[s.f]) (MH w8 ⟨P.g,10,V⟩ (J A8 nf c8)) aI):=bL
        replace b3:Hid (fJ aI w8 (MH w8 ⟨P.g,10,V⟩ (J A8 nf c8))):=b3
        generalize MH w8 ⟨P.g,10,V⟩ (J A8 nf c8)=w9 at bL b3 |-
        have aV:=b8.out.sc.next b3.out (fun b hb=>.inl hb)
        have cm:Hid (Has (zF.sl 3) w9 [J Aj lv.length cj] lv Sj):=fE (b8.out.lv.fU b3.out (fun b hb=>(b8.out.dv b hb).1))
        obtain⟨_,_,_,_,_,_,t6,t7,tf,tl⟩:=jA aV.box
        replace t7:Lg w9 ⟨g3,7,V⟩=H (J Aj lv.length cj):=t7
        have cp:=fE aV
        have eW:lv.length<=9223372036854775807:=by
         obtain⟨A',c',h5,h6,h7,_⟩:=cm.out.read;injection h5 with h5 _
         injection h5 with hA hn hc
         omega
        obtain⟨nv,dP⟩:∃ n,mL.items.length=n:=⟨_,rfl⟩
        have c1:=ef.out
        rw[HR.out] at c1
        have eY:nv<=100000:=by have h5:=c1.1.cnt;have h6:=cg.out.cnt;have h7:=e7.out.len;have h8:iE d<=1000:=(by unfold iE;omega);simp only at h5;omega
        have ed:Hid (∀ q∈lv,ie mL.items q):=fE c1.2
        have co:=fE dP
        have cV:fV (nv:Int):=iu (by omega)
        clear c1 dP aV bw
        go_wp2_with(fail)
        clear t6 t7 tf tl
        go_loopw [204] (fun z wi=>∃(q:Nat),z=F I q/\q<=lv.length/\Hid (gR P ((iv pd (mL.fZ dep)).gU (km (jS pd mL.items) (lv.take q) nv)) (fs0++[s.f]) w9 aI wi)) (fun z _=>lv.length-(Ml z).toNat)
        case atStart=>exact⟨0,rfl,Lv _,fE (gR.refl bL.out)⟩
        case round=>
         obtain⟨q,rfl,hq,dw⟩:=hrel;obtain⟨Lq,bU,bS,cA⟩:=dw.out;have bt:∀ b∈Sj,b∉aI:=fun b hb=>(b8.out.dv b hb).1;by_cases hql:q<lv.length
         ·have dR:(q:Int)<(lv.length:Int):=by omega
          have bF:lv[q]?=H lv[q]:=Lo hql;generalize lv[q]=jv at bF;obtain⟨gl,el,fh,er,eO,cS,_,_,_,ez,eK,eG,_,_⟩:=mN (cm.out.fU bS bt).1 (cm.out.fU bS bt).2 bF;obtain⟨rfl,_,_,rfl⟩:=ez;have yl:=eG 0 _ rfl;rw[show q*zF.size+0=q from by show q*1+0=q;omega] at yl;have hP:=Gp (l:=jS pd mL.items) (v:=(nv:Int)) bF;obtain⟨_,aj⟩:=vE (lv.take q) (jS pd mL.items) nv;obtain⟨jn,xi,cU,dN,_⟩:=ed.out jv (LP bF);have eS:jn<nv:=by have h5:=(Lh.1 dN).1;rw[co.out] at h5;exact h5
          rw[wF,co.out] at aj;obtain⟨l,dL⟩:∃ l,km (jS pd mL.items) (lv.take q) nv=l:=⟨_,rfl⟩
          rw[dL] at hP bU aj;obtain⟨fD,bB⟩:∃ y,l[jn]?=H y:=⟨_,Lo (by rw[aj];exact eS)⟩
          have eT:(jn:Int)<(nv:Int):=by omega
          rw[cU] at yl;have em:=fE bU;have ee:=fE bB;have HP:=fE hP;have eb:=fE cU;have cl:=fE aj;subst er;clear hP bU dN bB aj cU dL bF;go_upto_region 24 with(fail);clear yl cS eK;refine mv 13 (by kernel_rfl) (by kernel_rfl) (fun wy hgy=>?_);have cH:=em.out.fO hgy;obtain⟨gi,cr,x8,fC,_,fB,fA,_,bH,_⟩:=cH.item (m:=(iv pd (mL.fZ dep)).gU l) ee.out;replace x8:Lg wy ⟨P.g,8,V⟩=H (J (H ⟨gi,0,V⟩) l.length cr):=x8;rw[cl.out] at x8;obtain⟨_,_,_,_,_,_,_,_,_,_,_,_,xf,xl⟩:=cH.cells;obtain⟨p1,p2⟩:=bH nv cV
          have ej:Hid (gR P ((iv pd (mL.fZ dep)).gU (km (jS pd mL.items) (lv.take (q+1)) nv)) (fs0++[s.f]) w9 aI (wy.setCell ⟨gi,jn*7+1,V⟩ (F I (nv:Int)))):=fE (by
           rw[HP.out,eb.out,Lw]
           exact⟨Lq,p1,(bS.trans (hgy.only aI)).then p2 cA,cA⟩)
          clear cH bH p1 p2;simp only[Mm,MN,Mr,Mt]
          repeat still_step
          refine M6 ?_;go_wp2_with(fail);go_roundw;exact⟨q+1,by go_num,by omega,ej⟩;exact gL
         ·obtain rfl:q=lv.length:=by omega
          have dR:¬ ((lv.length:Int)<(lv.length:Int)):=by omega
          have f4:Ll I (dB+1)=dB+1:=kt (by omega);have bp:=cp.out.next bS cA;obtain⟨_,_,_,_,_,_,t6,_,_,tl⟩:=jA bp.box;obtain⟨_,_,_,_,_,_,_,_,_,_,_,_,zf,zl⟩:=bU.cells;have k9:Hid (gR P (((iv pd (mL.fZ dep)).gU (km (jS pd mL.items) lv nv)).fZ (dB+1)) (fs0++[s.f]) w9 aI (MH _ ⟨P.g,9,V⟩ (F I (dB+1)))):=fE (by have h9:=dw.out;rw[MJ] at h9;exact h9.num rfl (fun _ _ _ _ _ _ _ _ _=>rfl))
          have e8:Hid (zE P.E (zH P.E (d+1)) (fs0++[s.f]) k s (i:Int) m=(mL.gU (km mL.items lv nv)).fZ (dB+1)):=fE (by
           unfold zE;simp only[eg.out,hX.symm];have e9:=HR.out;rw[bV] at e9;rw[e9,cg.out.depth];simp only[co.out]
           rw[show m.depth + -(na:Int)=dB from by have h6:=bK.out;omega])
          clear bp;go_wp2_with(fail);clear t6 tl zf zl dR f4;obtain⟨L9,b7,eA,eu⟩:=k9.out
          have e:(((iv pd (mL.fZ dep)).gU (km (jS pd mL.items) lv nv)).fZ (dB+1))=iv pd ((mL.gU (km mL.items lv nv)).fZ (dB+1)):=by
           show fW.mk (km (jS pd mL.items) lv nv) _ _ _=fW.mk (jS pd (km mL.items lv nv)) _ _ _;rw[BY];rfl
          rw[e] at b7;have oA:fJ L W w4:=di.out.trans af;have sA:=di.out.size;have bk:∀ b∈P.g::(Si++Sf),b∈L∨W.heap.size<=b:=fun b hb=>(bj b hb).imp id (fun h=>LO sA h);have oB:fJ L W w5:=oA.then dh.out (fun b hb=>by simp only[Lr] at hb;subst hb;exact .inr bv);have sB:=oB.size;have oC:fJ L W w6:=oB.then dy bk;have sC:=oC.size
          have bA:∀ b∈g3::((P.g::(Si++S9))++[]),b∈L∨W.heap.size<=b:=fun b hb=>by
           rw[MC] at hb;rcases LU.1 hb with rfl | hb
           ·exact .inr bv
           ·rcases dK b hb with h | h
            ·exact bk b h
            ·exact .inr (LO sB h)
          have oD:fJ L W w7:=oC.then ey bA
          have aY:∀ b∈aI,b∈L∨W.heap.size<=b:=fun b hb=>by
           rcases et b (ML _ (LW _ hb)) with h | h
           ·exact bA b h
           ·exact .inr (LO sC h)
          have oF:fJ L W w9:=(oD.trans (aM.only _)).then b3.out aY;have oG:=oF.then eA aY
          have bl:∀ b∈L9,b∈L∨W.heap.size<=b:=fun b hb=>by
           rcases eu b hb with h | h
           ·exact aY b h
           ·exact .inr (LO oF.size h)
          have f2:ia pd ((mL.gU (km mL.items lv nv)).fZ (dB+1)):=((b8.out.kj.args nv lv).fZ (dB+1)).of rfl rfl;exact MF (v:=.tuple #[]) (by simp[Ly,results269,go_sem]) rfl ⟨rfl,by rw[e8.out];exact⟨L9,⟨f2,b7,HH.out.2.2.next oG bl⟩,oG,bl⟩⟩
end Go.Proofs.YtiihkapmggfjkaaGreat
