/-
  PART.
-/
import Derived.Test.YthgbglbaemelhaaGreatM32LawSlices
set_option linter.unusedVariables false
set_option linter.unusedSimpArgs false
set_option maxRecDepth 100000
set_option maxHeartbeats 8000000
namespace Go.Proofs.YthgbglbaemelhaaGreat
open Value renaming slice->G,int->J,bool->H,string->V
open IntKind renaming i64->C,wrap->QP
open Option renaming none->D,some->Z
open Obj renaming cells->F
open Bool renaming false->I,true->M
open Go renaming World->U,results->Rd,Addr->Ri,madeCells->R4,yielded->Su
open World renaming cell?->QL,frozen?->Rb
open _root_.Int renaming toNat_natCast->Ra
open List renaming length_cons->Rc,replicate->Ro,length_singleton->RD
open RowKit renaming intOf->Ry
open Region renaming wanted->Rx,ready->RL,noSelect->Tn,free->Ui
open Tryz
open Go.RowKit
variable {Ae Ah:X Ri}{B:Q (Nat × Obj)}{L' L0 Se Sh:Q Nat}{P:jj}{R0:Q (Q Value)}{T:iC}{W wr:U}{a b ce ch g i j k:Nat}{chain fN:Q Int}{item:Int}{m:fS}{p:Q fv}{s:fG}
theorem Jp {α:Type} {xs:Q α} {x:α} (h:xs[k]?=Z x):xs.drop k=x::xs.drop (k+1):=by
 obtain⟨h1,rfl⟩:=QM.1 h;exact Q6 h1
theorem tg {c QA:Nat} (h1:a<=max b QA+24)(h2:max b QA<=max c QA+24*(k-(i+1)))(hi:i<k):max a QA<=max c QA+24*(k+1-(i+1)):=by omega
theorem xY (h:a<=62*(k-(i+1)))(_hi:i<k):a<=62*(k+1-(i+1)):=by omega
theorem tm (h:a<=k-(i+1))(h2:b<=a+1)(hi:i<k):b<=k+1-(i+1):=by omega
theorem Es (E:fW)(s:fG)(k:Int)(last:Bool)(m:fS)(lv hd:Q Int)(ex:Q (Int × Int)):(kN E s k last ⟨m,lv,hd,ex⟩).fN=hd/\(kN E s k last ⟨m,lv,hd,ex⟩).fR=ex:=by
 unfold kN;split
 ·split <;> exact⟨rfl,rfl⟩
 ·split <;> exact⟨rfl,rfl⟩
theorem F3 (E:fW)(s:fG)(k:Int)(last:Bool)(m:fS)(lv hd:Q Int)(ex:Q (Int × Int)):(kN E s k last ⟨m,lv,hd,ex⟩).leaves.length<=lv.length+1:=by
 unfold kN;split
 ·split <;> simp[je.wm]
 ·split <;> simp[je.wm]
theorem gA.mE {L:je} (h:gA B P T R0 s W L0 Ah ch Sh L Ae ce Se L' wr):ft P.Y wr:=by
 obtain⟨Av,cv,Sv,Lm,h1,_⟩:=h.st;exact h1.st.iU.2.2.2.2
theorem gA.ij {B:Q (Nat × Obj)}{P:jj}{T:iC}{R0:Q (Q Value)}{s:fG}{W:U}{L0:Q Nat}{Ah:X Ri}{ch:Nat}{Sh:Q Nat}{L:je}{Ae:X Ri}{ce:Nat}{Se L':Q Nat}{wr:U}(h:gA B P T R0 s W L0 Ah ch Sh L Ae ce Se L' wr) :
  QL wr ⟨P.g,0,D⟩=Z (G P.A P.E.p.length P.c)/\QL wr ⟨P.g,1,D⟩=Z (J C P.b.Frames)/\QL wr ⟨P.g,2,D⟩=Z (J C P.E.inl)/\QL wr ⟨P.g,5,D⟩=Z (H P.E.gV)/\QL wr ⟨P.g,6,D⟩=Z (J C P.E.words)/\QL wr ⟨P.g,7,D⟩=Z (J C L.m.gL)/\QL wr ⟨P.g,8,D⟩=Z (J C P.E.args)/\QL wr ⟨P.g,9,D⟩=Z (J C L.m.depth)/\QL wr ⟨P.g,12,D⟩=Z (H L.m.start)/\(∀ j,Rb wr ⟨P.g,j,D⟩=I)/\P.g<wr.heap.size:=by
 obtain⟨Av,cv,Sv,Lm,h1,_⟩:=h.st;exact h1.st.ij
theorem gA.sr {B:Q (Nat × Obj)}{P:jj}{T:iC}{R0:Q (Q Value)}{s:fG}{W:U}{L0:Q Nat}{Ah:X Ri}{ch:Nat}{Sh:Q Nat}{L:je}{Ae:X Ri}{ce:Nat}{Se L':Q Nat}{wr:U}(h:gA B P T R0 s W L0 Ah ch Sh L Ae ce Se L' wr):∃ Ai ci,QL wr ⟨P.g,10,D⟩=Z (G Ai L.m.items.length ci):=by
 obtain⟨Av,cv,Sv,Lm,h1,_⟩:=h.st;exact h1.st.sr
theorem EV {a:Q (Int × Int)} {x:Int × Int} (h:a.length<=62*(k-(i+1)))(hi:i<k):(a++[x]).length<=62*(k+1-(i+1)):=by
 rw[QR,RD];omega
theorem OI (h:a<=62*(k-(i+1)))(hb:b<=a+(k-i))(hi:i<k)(hk:k<=60):b<=62*(k+1-(i+1)):=by omega
theorem DI (p:Q fv)(k item:Int):∀(n i:Nat),(nM p k item n i).length<=n
 | 0,_=>Q8 _
 | n+1,i=>by
  have:=DI p k item n (i+1);unfold nM;split
  ·rw[Rc];omega
  ·omega
theorem Jr {k:Int} (h:i<j)(he:kh p i=k):nM p k item (j-i) i=(iN p i+1,item)::nM p k item (j-(i+1)) (i+1):=by
 rw[show j-i=j-(i+1)+1 from by omega];show (if kh p i=k then _ else _)=_;rw[Q5 he]
theorem Kj {k:Int} (h:i<j)(he:¬ kh p i=k):nM p k item (j-i) i=nM p k item (j-(i+1)) (i+1):=by
 rw[show j-i=j-(i+1)+1 from by omega];show (if kh p i=k then _ else _)=_;rw[QZ he]
theorem Jq {k:Int}:nM p k item (i-i) i = []:=by rw[RP];rfl
theorem Mg {E:fW} {k:Int} (h:i<j)(he:iN E.p i=k/\(E.p[i]?.map fv.Kind)=Z 5):ns E k chain fN (j-i) i m=ns E k chain fN (j-(i+1)) (i+1) (zB E m 10 (fN.getD i 0) k chain):=by
 rw[show j-i=j-(i+1)+1 from by omega];show ns E k chain fN _ _ (if _ then _ else _)=_;rw[Q5 he]
theorem GP {E:fW} {k:Int} (h:i<j)(he:¬ (iN E.p i=k/\(E.p[i]?.map fv.Kind)=Z 5)):ns E k chain fN (j-i) i m=ns E k chain fN (j-(i+1)) (i+1) m:=by
 rw[show j-i=j-(i+1)+1 from by omega];show ns E k chain fN _ _ (if _ then _ else _)=_;rw[QZ he]
theorem Mf {E:fW} {k:Int}:ns E k chain fN (i-i) i m=m:=by rw[RP];rfl
theorem DW {w:U} {p:Ri} {v:Value} (h:w.cell? p=Z v)(n:Nat):(w.drewN n).cell? p=Z v:=za ((ft.refl _).drewN n) h
theorem gA.Bl {L:je} {w2:U} {o:Obj} (h:gA B P T R0 s W L0 Ah ch Sh L Ae ce Se L' wr)(hg:ft wr w2)(hb:w2.heap[g]?=Z o)(hl:wr.heap.size<=g):gA ((g,o)::B) P T R0 s W L0 Ah ch Sh L Ae ce Se L' w2:=by
 have h1:=h.fx hg;refine⟨h1.st,h1.on,h1.nw,h1.hd,h1.ex,h1.dh,h1.de,fun p hp=>?_⟩;rcases Rp.1 hp with rfl | hp
 ·exact⟨hb,fun hm=>by have:=h.xo _ hm;simp only at this;omega,fun hm=>by have:=h.hd.lt _ hm;simp only at this;omega,fun hm=>by have:=h.ex.lt _ hm;simp only at this;omega⟩
 ·exact h1.kb p hp
theorem gA.row {B:Q (Nat × Obj)}{P:jj}{T:iC}{R0:Q (Q Value)}{s:fG}{W:U}{L0:Q Nat}{Ah:X Ri}{ch:Nat}{Sh:Q Nat}{L:je}{Ae:X Ri}{ce:Nat}{Se L':Q Nat}{wr:U}(h:gA B P T R0 s W L0 Ah ch Sh L Ae ce Se L' wr):∃ gs cs Av cv,
  QL wr ⟨P.g,11,D⟩=Z (G (Z ⟨gs,0,D⟩) (R0.length+1) cs)/\QL wr ⟨gs,R0.length*6,D⟩=Z (J C s.f)/\QL wr ⟨gs,R0.length*6+1,D⟩=Z (G T.Ac s.chain.length T.cc)/\QL wr ⟨gs,R0.length*6+2,D⟩=Z (G T.Al s.locals.length T.cl)/\QL wr ⟨gs,R0.length*6+3,D⟩=Z (J C s.first)/\QL wr ⟨gs,R0.length*6+4,D⟩=Z (H s.outer)/\QL wr ⟨gs,R0.length*6+5,D⟩=Z (G Av L.leaves.length cv)/\gs<wr.heap.size/\(∀ j,Rb wr ⟨gs,j,D⟩=I)/\
  (iH.sl 9).R wr wr.heap.size [G T.Al s.locals.length T.cl] s.locals/\∃ o,wr.heap[P.g]?=Z o:=by
 obtain⟨Av,cv,Sv,Lm,hB,_⟩:=h.st;obtain⟨gs,cs,a0,h0,h1,h2,h3,h4,h5,hl,_,hf,_⟩:=hB.row;obtain⟨Ai,ci,Si,As,a1,Ss,hM,_⟩:=id hB.st;exact⟨gs,cs,Av,cv,a0,h0,h1,h2,h3,h4,h5,hl,hf,hB.locals.read,_,hM.box⟩
theorem EA (w:U):∀ n,Rows zr w (Ro n (J C 0)) (Ro n 0) []
 | 0=>⟨rfl,rfl⟩
 | n+1=>by
  rw[List.replicate_succ,List.replicate_succ];exact⟨[J C 0],Ro n (J C 0),[],[],rfl,rfl,⟨rfl,by decide,by decide,rfl⟩,EA w n⟩
theorem Le (n:Nat):(R4 #[J C 0] n).toList=Ro n (J C 0):=by
 apply List.ext_getElem
 ·simp[R4]
 ·intro i h1 h2
  simp[R4,Nat.mod_one]
theorem Nl {n:Nat} (hg:W.heap[g]?=Z (F (R4 #[J C 0] n) 3 (0,0)))(hn:n<=9223372036854775807):Has (zr.sl 3) W [G (Z ⟨g,0,D⟩) n n] (Ro n 0) [g]:=by
 have h:=pS (T:=zr) (xs:=Ro n (0:Int)) (S:=[]) hg (by rw[Le];exact EA W n) (by rw[RJ];exact hn);rw[RJ] at h;exact⟨h,by simp⟩
theorem yA {g:Prop} (f:g:=by
  have zf7:=hR7.ij.2.2.2.2.2.2.2.2.2.1
  go_upto_region 37 with(first | (at_builtin;refine zA (L:=L.fR.length+1) rfl (.tmp 203) (.tmp 211) Dr C9 (hR7.ex.fx gF) hra rfl rfl rfl (by intro j u hu;simpa[go_sem] using hu) rfl (by omega) (by omega) ?_;intro A9 c9 w9 S9 hon hH9 hS9))
  have hR8:=gA.fR (xs:=L.fR++[(ev+1,(m6.items.length:Int))]) (hR7.fx gF) hYW hTlt (gA.xo (hR7.fx gF)) hon (by rw[QR];exact hH9) hS9
  have hl9:(L.fR++[((ev+1),(m6.items.length:Int))]).length=L.fR.length+1:=by rw[QR];rfl
  have HL9:=fh hl9
  clear hl9 hra zf7 b0 z10
  go_wp2_with(first | (go_at_call 203;(with_reducible refine(ya hR8 hsc hml6 h11 h00 hkI hdI6).mono ?_);rintro e9 w10 ⟨rfl,L10,hR10⟩;have y9:QL w10 ⟨P.g,9,D⟩=Z (J C m6.depth):=hR10.ij.2.2.2.2.2.2.2.1;have yf:=hR10.ij.2.2.2.2.2.2.2.2.2.1;have yl:=hR10.ij.2.2.2.2.2.2.2.2.2.2))
  obtain⟨L11,hR11⟩:=hR10.next (lv':=L.leaves) ((gg.refl hR10.st).num (m':=(zB P.E m6 11 0 k s.chain).gw (m6.depth-1)) (i:=9) (v:=J C (m6.depth-1)) rfl (fun _ _ _ _ _ _ _ _ _=>rfl))
  rw[<-HL9.out]
  clear r4 r7 r1 r2 r6 r3
  have hok9:=HOK2.out
  have hst9:=HST2.out
  have hg9:=hG2.out
  rw[HHQ.out] at hok9 hst9 hg9
  have hc9:=hst9.cnt
  have hd9:=hst9.depth
  simp only at hc9 hd9
  have HCNT:max ((zB P.E m6 11 0 k s.chain).gw (m6.depth-1)).items.length (200+iO d)<=max m.items.length (200+iO d)+24*(k+1-(i'+1)):=tg hc9 hck hik
  have HDEP:((zB P.E m6 11 0 k s.chain).gw (m6.depth-1)).depth=m.depth:=hd9.trans ((Th _).trans hdk)
  have HLVS:(L.leaves).length<=k+1-(i'+1):=tm hvk (Us _) hik
  have HOK9:=fh hok9
  have HG9:=fh hg9
  clear hok9 hst9 hg9 hc9 hd9
  go_roundw
  case measure=>(clear hn hfs hd hcnt hd0 hd1 hsc hchl hck hdk hxk hvk hxl hvl HCNT HDEP HLVS;simp[Ry];try omega)
  case rel=>exact⟨k+1,(⟨(zB P.E m6 11 0 k s.chain).gw (m6.depth-1),L.leaves,L.fN.set k (nn:Int),L.fR++[((ev+1),(m6.items.length:Int))]⟩:je),A9,c9,S9,L11,rfl,by go_num,SY hik,Tf hle,fh (hR11.drop (fun _ h=>by cases h)),HOK9,HDEP,HCNT,EV hxk hik,HLVS,HHK.out,HG9⟩):g:=f
theorem vn {g:Prop} (f:g:=by
  go_roundw
  exact⟨i+1,m4,L4,by go_num,by omega,by omega,fh (hR4.out.fx hg5),HB5,by omega,hdp4⟩
  exact gH):g:=f
theorem zo7 {d:Nat} (hR:qi P)(hrep:AV P d):AU P d:=by
 intro T m R0 s W L a0 i e h hF hn hs cT hfs hd hm hcnt bv he hd0 hd1;obtain⟨i',e',xf,cP,dT,bm,dp,an⟩:=hs.qN;obtain rfl:i'=i:=by rw[bv] at cP;omega
 obtain rfl:=dp.uniq he;have c7:=he.len;have dI:=he.lt;have dA:=(QM.1 dT).1;have dF:=hR.env.pc.len;obtain⟨Av,cv,Sv,Lm,hB,rfl⟩:=h;obtain⟨gs,cs,cr,s0,s1,s2,s3,s4,s5,sl,sn,sf,sL⟩:=hB.row;obtain⟨z0,z1,z2,z5,z6,z7,z8,z9,bo,zf,zl⟩:=hB.st.ij;rw[bv] at s0;have ar:=fh bv;clear bv cP;have b6:=hB.st.iU.2.2.2.2;have hYW:=b6.size;have ef:QP C ((R0.length:Int)+1-1)=(R0.length:Int):=by rw[Td];exact iw
 have eg:QP C (R0.length:Int)=(R0.length:Int):=iw;have dJ:(R0.length:Int)<(R0.length:Int)+1:=by omega
 have dQ:QP C ((i':Int)+1)=(i':Int)+1:=iw;have cu:=fh he.iS;obtain⟨i0,hi,cZ,d0,d1⟩:=SJ BC;have cg:=DE (P:=prog) 26 3 i0 _ underlying26 hi cZ C C P.E.p.length P.E.p.length (Q8 _) (by rw[d1];omega) (by omega);rw[d0,Tq] at cg;have ch:∀ w:U,(Instr.makeSlice 26 (J C (P.E.p.length:Int)) (J C (P.E.p.length:Int))).run prog w=.ok (G (Z ⟨w.heap.size,0,D⟩) P.E.p.length P.E.p.length) (w.alloc (F (R4 #[J C 0] P.E.p.length) 3)):=fun w=>cg w;clear cg hi cZ d0 d1;have dM:=hR.up b6;have a9:=hR.hl;go_enter func204,ntmps204;go_upto_region 0 with(fail);go_quiet (fail);go_upto_region 1 with(fail);go_quiet (fail);go_wp2_with(first | (go_at_call 160;(with_reducible refine(zbi (Ty.up _ dM gF) a9).mono ?_);rw[cu.out];rintro e9 w1 ⟨rfl,cK⟩;have z0:=za (ft.trans (b:=_) gF cK) z0));have cC:ft W w1:=ft.trans (b:=_) gF cK;have eh:((w1.alloc (F (R4 #[J C 0] P.E.p.length) 3)).alloc (F #[] 264)).heap[w1.heap.size]?=Z (F (R4 #[J C 0] P.E.p.length) 3 (0,0)):=zj (QO w1 _) gF;have ee:((w1.alloc (F (R4 #[J C 0] P.E.p.length) 3)).alloc (F #[] 264)).heap[w1.heap.size+1]?=Z (F #[] 264 (0,0)):=by have h:=QO (w1.alloc (F (R4 #[J C 0] P.E.p.length) 3)) (F #[] 264);rw[Rf] at h;exact h
 have bJ:ft W ((w1.alloc (F (R4 #[J C 0] P.E.p.length) 3)).alloc (F #[] 264)):=cC.trans gF;obtain⟨gh,bV⟩:∃ gh,w1.heap.size=gh:=⟨_,rfl⟩
 have bW:W.heap.size<=gh:=by have:=cC.size;omega
 rw[bV] at eh ee |-;have e4:=fh bV;clear bV;generalize ((w1.alloc _).alloc _)=w2 at eh ee bJ |-;have cA:∀ b∈Lm++Sv,b<W.heap.size:=fun b hb=>(Q7.1 hb).elim (hB.st.iU.2.2.1 b) (hB.leaves.lt b);have dN:s.wl []=s:=by unfold fG.wl;rw[<-cT]
 have hTlt:(∀ b∈T.Sc,b<W.heap.size)/\∀ b∈T.Sl,b<W.heap.size:=⟨hB.chain.lt,hB.locals.lt⟩
 have d9:Hid (gA [] P T R0 s W (Lm++Sv) (Z ⟨gh,0,D⟩) P.E.p.length [gh] ⟨m,[],Ro P.E.p.length 0,[]⟩ (Z ⟨gh+1,0,D⟩) 0 [gh+1] (Lm++Sv) w2):=fh
  ⟨by rw[dN];exact⟨Av,cv,Sv,Lm,hB.fx bJ,rfl⟩,bJ.only _,fun b hb=>.inl hb,by simpa using Nl eh (by omega),Has.emp qM ee,
   fun b hb=>by simp only[QN] at hb;subst hb;exact⟨fun hm=>by have:=cA _ hm;omega,by simp,bW⟩,
   fun b hb=>by simp only[QN] at hb;subst hb;exact⟨fun hm=>by have:=cA _ hm;omega,by omega⟩,fun p hp=>by cases hp⟩
 obtain⟨LF,br⟩:∃ LF,pQ P.E (fun k g m=>jL P.E (iX P.E d) (a0++[s.f]) k s g m) (a0++[s.f]) s e' (P.E.p.drop (i'+1)) (e'+1-(i'+1)) (i'+1) ⟨m,[],Ro P.E.p.length 0,[]⟩=LF:=⟨_,rfl⟩
 have d6:Hid (iX P.E (d+1) (a0++[s.f]) s m=(LF.m,LF.leaves)):=fh (by
  show vT P.E (fun fs s k g m=>jL P.E (iX P.E d) fs k s g m) (a0++[s.f]) s m=_;unfold vT;simp only[ar.out,cu.out,Ra,cT];rw[ar.out] at br
  rw[show e'-i'=e'+1-(i'+1) from by omega,br])
 have d5:=fh br;have cn:kX P.E ⟨m,[],Ro P.E.p.length 0,[]⟩:=⟨hm,fun j hj=>(by cases hj),fun z hz=>(by cases hz),fun a ha=>(by rw[TF ha];simp)⟩
 clear cr s0 s1 s2 s3 s4 s5 z0 z1 z2 z5 z6 z7 z8 z9 bo br eh ee ch;go_loopw [6,7] (fun z6 z7 wr=>∃(k:Nat) (L:je) (Ae:X Ri) (ce:Nat) (Se L':Q Nat),z6=G Ae L.fR.length ce/\z7=J C k/\i'<k/\k<=e'+1/\Hid (gA [] P T R0 s W (Lm++Sv) (Z ⟨gh,0,D⟩) P.E.p.length [gh] L Ae ce Se L' wr)/\Hid (kX P.E L)/\L.m.depth=m.depth/\max L.m.items.length (200+iO d)<=max m.items.length (200+iO d)+24*(k-(i'+1))/\L.fR.length<=62*(k-(i'+1))/\L.leaves.length<=k-(i'+1)/\L.fN.length=P.E.p.length/\Hid (pQ P.E (fun k g m=>jL P.E (iX P.E d) (a0++[s.f]) k s g m) (a0++[s.f]) s e' (P.E.p.drop k) (e'+1-k) k L=LF)) (fun _ z7 _=>e'+1-(Ry z7).toNat)
 case atStart=>exact⟨i'+1,_,_,0,_,_,rfl,by go_num,by omega,by omega,d9,fh cn,rfl,Tu _ _,by simp,by simp,by simp,d5⟩
 case round=>
  obtain⟨k,L,Ae,ce,Se,L',rfl,rfl,hik,eb,a4,aP,hdk,hck,hxk,hvk,b7,hG⟩:=hrel;by_cases hle:k<=e'
  ·have c5:k<P.E.p.length:=by omega
   have hx:P.E.p[k]?=Z P.E.p[k]:=QW c5;generalize P.E.p[k]=x at hx
   have cR:kM P.E.p k≠0:=by
    rw[xI hx];intro h;by_cases aB:k=e'
    ·subst aB
     obtain⟨y,hy,h7⟩:=he.last;rw[hx] at hy;injection hy with hy
     rw[hy] at h;omega
    ·exact(an k x hik (by omega) hx).1 h
   obtain⟨ed,cY⟩:=hrep T R0 s a0 k hs hfs hd hF hn c5 cR;have ao:0<=L.m.depth/\L.m.depth<=jN (d+1):=⟨by omega,by omega⟩
   obtain⟨aQ,aS⟩:=EY hR.env hs cY aP.out ar.out he hik hle hx ao
   have hG2:Hid (pQ P.E (fun k g m=>jL P.E (iX P.E d) (a0++[s.f]) k s g m) (a0++[s.f]) s e' (P.E.p.drop (k+1)) (e'+1-(k+1)) (k+1) (lF P.E (fun g m=>jL P.E (iX P.E d) (a0++[s.f]) k s g m) (a0++[s.f]) s e' k x L)=LF):=fh (by
    rw[<-hG.out,Jp hx,show e'+1-k=(e'+1-(k+1))+1 from by omega]
    rfl)
   have HOK2:=fh aQ;have HST2:=fh aS;have aW:iO d<=1000:=by unfold iO;omega
   have bN:jN (d+1)<=900:=by unfold jN;omega
   have dH:L.m.items.length<=7000:=by omega
   have hxl:L.fR.length<=100000:=by omega
   have hvl:L.leaves.length<=100000:=by omega
   obtain⟨gp,op,x',bx,bD,bz,bE,bI,c1,cq,p0,p1,p2,p3,q0,q1,q2,_⟩:=lK (hR.up (a4.out.mE)) c5;obtain rfl:x'=x:=by rw[hx] at cq;injection cq with h;exact h.symm
   have hkI:fD (k:Int):=⟨by omega,by omega⟩
   have dD:(k:Int)<=(e':Int):=by omega
   have dE:(k:Int)<(P.E.p.length:Int):=by omega
   have ej:QP C ((k:Int)+1)=(k:Int)+1:=iw;obtain⟨z0,z1,z2,z5,z6,z7,z8,z9,bo,zf,zl⟩:=a4.out.ij;rw[bI] at z0;have e5:=fh bI;have HX:=fh hx;clear hx cq bI aQ aS hG;have cB:=a4.out.jF (cs:=#[J C x'.Kind,V x'.Name,G bx x'.fM.length bD,G bz x'.Expr.length bE]) (t:=99);obtain⟨g8,bT⟩:∃ g8,wr.heap.size=g8:=⟨_,rfl⟩
   have bu:=Hk (tgt:=(k:Int)) cB (fun z hz=>aP.out.fR z hz) (by omega) hxl;obtain⟨m0,ca⟩:∃ m0,lD L.m L.fR k=m0:=⟨_,rfl⟩
   have bj:=BW (n0:=0) aP.out.mo (tgt:=(k:Int)) (es:=L.fR) aP.out.fR;rw[ca] at bu bj;rw[bT] at bu;go_upto_region 10 with(first | (go_at_call 210;(with_reducible refine bu.mono ?_);rintro e9 w3 ⟨rfl,L3,aj⟩));have aw:=(aj.kb _ (.head _)).1;simp only at aw;have e3:=fh bT;have ab:=fh ca;have bB:=fh bj;have bd:m0.depth=L.m.depth:=by have h9:=bj.depth;omega
   have cj:m0.items.length<=7000:=by have h9:=bj.cnt;omega
   clear a4 cB bu ca bT bj z0 z1 z2 z5 z6 z7 z8 z9 bo zf zl p0 p1 p2 p3;obtain⟨b0,b1,b2,b3,bf,bl⟩:=iJ aw;have hchl:=hs.chain.1;have hsc:s.chain.length<=1000:=by omega
   have h00:fD 0:=⟨by omega,by omega⟩
   by_cases k4:x'.Kind=4
   ·as_aux_lemma=>
    have r4:(x'.Kind == 4)=M:=Rt.2 k4;obtain⟨EX,aM⟩:∃ e,L.fR++nM P.E.p k (m0.items.length:Int) (k-i') i'=e:=⟨_,rfl⟩
    have aN:EX.length<=L.fR.length+(k-i'):=by rw[<-aM,QR];have:=DI P.E.p k (m0.items.length:Int) (k-i') i';omega
    have bh:(L.m.items.length:Int)=(m0.items.length:Int):=by rw[<-ab.out];exact Sg Nat.cast ((s9 _ _ _ _).2).symm
    have HHQ:Hid (lF P.E (fun g m=>jL P.E (iX P.E d) (a0++[s.f]) k s g m) (a0++[s.f]) s e' k x' L=⟨lD (zB P.E m0 10 0 k s.chain) EX (-(k:Int)),L.leaves,L.fN,EX⟩):=fh (by
     unfold lF;simp only
     rw[Q5 k4,ab.out,ar.out,Ra,bh,aM])
    have a6:m0.items.length<=100000:=by omega
    have be:(zB P.E m0 10 0 k s.chain).items.length<=100000:=by rw[wJ];omega
    have bG:fD 10:=⟨by omega,by omega⟩
    have bO:fD m0.depth:=⟨by omega,by omega⟩
    have b9:fD (m0.items.length:Int):=⟨by omega,by omega⟩
    have dS:QP C (-(k:Int)) = -(k:Int):=iw;have bH:EX.length<=100000:=by omega
    have bA:Hid (∀ e∈EX,gU (zB P.E m0 10 0 k s.chain).items e.2):=fh (fun e he=>by
     rw[<-aM] at he;rcases Q7.1 he with h | h
     ·exact(bB.out.keeps.jump _ (aP.out.fR e h)).app
     ·rw[yE _ _ _ _ _ e h]
      exact zb P.E m0 10 0 k s.chain (.inl rfl))
    have d3:=fh aM;have aq:=fh aN;clear k4 aM aN bh;go_wp2_with(fail);go_loopw [6,9] (fun z6 z9 wr=>∃(i:Nat) (xs:Q (Int × Int)) (aH:X Ri) (aL:Nat) (bp L4:Q Nat),z6=G aH xs.length aL/\z9=J C i/\i'<=i/\i<=k/\Hid (gA [(g8,F #[J C x'.Kind,V x'.Name,G bx x'.fM.length bD,G bz x'.Expr.length bE] 99 (0,0))] P T R0 s W (Lm++Sv) (Z ⟨gh,0,D⟩) P.E.p.length [gh] ⟨m0,L.leaves,L.fN,xs⟩ aH aL bp L4 wr)/\Hid (xs++nM P.E.p k (m0.items.length:Int) (k-i) i=EX)/\xs.length<=L.fR.length+(i-i')) (fun _ z9 _=>k-(Ry z9).toNat)
    case atStart=>exact⟨i',L.fR,Ae,ce,Se,L3,rfl,rfl,Q8 _,UO hik,fh aj,d3,Tu _ _⟩
    case round=>
     obtain⟨i,xs,aH,aL,bp,L4,rfl,rfl,dx,dy,hR4,bK,dU⟩:=hrel;by_cases hlt4:i<k
     ·have aA:(i:Int)<(k:Int):=by omega
      have cp:QP C ((i:Int)+1)=(i:Int)+1:=iw;have al:=hR.up (hR4.out.mE);have z0:=hR4.out.ij.1;obtain⟨dZ,ea,z10⟩:=hR4.out.sr;simp only at z10;obtain⟨bF,ad⟩:∃ v,kh P.E.p i=v:=⟨_,rfl⟩
      have aI:=fh ad;by_cases heq4:bF=(k:Int)
      ·have aC:(bF == (k:Int))=M:=Rt.2 heq4
       obtain⟨a5,a1⟩:∃ v,iN P.E.p i=v:=⟨_,rfl⟩
       have cI : -1<=a5/\a5<=60:=by
        rcases vJ P.E.p i with h | ⟨a,e2,h,h2,h3⟩
        ·omega
        ·have:=h3.len;omega
       have dP:QP C (a5+1)=a5+1:=iw;have aX:fD (a5+1):=⟨by omega,by omega⟩
       have aa:=fh a1
       have bC:Hid ((xs++[(a5+1,(m0.items.length:Int))])++nM P.E.p k (m0.items.length:Int) (k-(i+1)) (i+1)=EX):=fh (by
        have h9:=bK.out;rw[Jr hlt4 (by rw[ad,heq4]),a1] at h9;rw[Rw]
        exact h9)
       clear ad a1 heq4;go_upto_region 17 with(first | (go_at_call 192;(with_reducible refine(zgI (Ty.up _ al gF) a9).mono ?_);rw[aI.out];rintro e9 w5 ⟨rfl,hg5⟩;have z0:=za hg5 z0;have z10:=za hg5 z10) | (go_at_call 160;(with_reducible refine(zbi (Ty.up _ (hR.up (hR4.out.fx hg5).mE) gF) a9).mono ?_);rw[aa.out];rintro e9 w6 ⟨rfl,cL⟩;have z10:=za cL z10));have a3:=(hR4.out.fx hg5).fx cL;have co:qM.R w6 w6.heap.size [J C (a5+1),J C (m0.items.length:Int)] (a5+1,(m0.items.length:Int)):=⟨[J C (a5+1)],[J C (m0.items.length:Int)],rfl,⟨rfl,aX.1,aX.2⟩,⟨rfl,b9.1,b9.2⟩⟩
       have ek:=a3.ij.2.2.2.2.2.2.2.2.2.1;go_wp2_with(first | (at_builtin;refine zA (L:=xs.length+1) rfl (.tmp 96) (.tmp 104) Dr C9 (a3.ex.fx gF) co rfl rfl rfl (by intro j u hu;simpa[go_sem] using hu) rfl (by omega) (by omega) ?_;intro A9 c9 w9 S9 hon hH9 hS9));have df:=gA.fR (xs:=xs++[(a5+1,(m0.items.length:Int))]) (a3.fx gF) hYW hTlt (gA.xo (a3.fx gF)) hon (by rw[QR];exact hH9) hS9;go_roundw
       case measure=>(clear aq;simp[Ry];try omega)
       case rel=>exact⟨i+1,_,A9,c9,S9,L4,by rw[QR];rfl,by go_num,by omega,by omega,fh df,bC,by rw[QR,RD];omega⟩
      ·have aC:(bF == (k:Int))=I:=QV.2 heq4
       have bC:Hid (xs++nM P.E.p k (m0.items.length:Int) (k-(i+1)) (i+1)=EX):=fh (by
        have h9:=bK.out;rw[Kj hlt4 (by rw[ad];exact heq4)] at h9
        exact h9)
       clear ad heq4;go_wp2_with(first | (go_at_call 192;(with_reducible refine(zgI (Ty.up _ al gF) a9).mono ?_);rw[aI.out];rintro e9 w5 ⟨rfl,hg5⟩));go_roundw
       case measure=>(clear aq;simp[Ry];try omega)
       case rel=>exact⟨i+1,xs,aH,aL,bp,L4,rfl,by go_num,by omega,by omega,fh (hR4.out.fx hg5),bC,by omega⟩
     ·obtain rfl:k=i:=by omega
      have aA:¬ ((k:Int)<(k:Int)):=by omega
      have dh:xs=EX:=by
       have h9:=bK.out;rw[Jq,SC] at h9;exact h9
      subst dh;go_wp2_with(first | (go_at_call 203;(with_reducible refine(ya hR4.out hsc a6 bG h00 hkI bO).mono ?_);rintro e9 w7 ⟨rfl,L7,hR7⟩) | (go_at_call 210;(with_reducible refine(Hk hR7 bA.out be bH).mono ?_);rintro e9 w8 ⟨rfl,L8,hR8⟩));clear r4;have hok9:=HOK2.out;have hst9:=HST2.out;have hg9:=hG2.out;rw[HHQ.out] at hok9 hst9 hg9;have hc9:=hst9.cnt;have hd9:=hst9.depth;simp only at hc9 hd9;have HCNT:max (lD (zB P.E m0 10 0 k s.chain) xs (-(k:Int))).items.length (200+iO d)<=max m.items.length (200+iO d)+24*(k+1-(i'+1)):=tg hc9 hck hik;have HDEP:(lD (zB P.E m0 10 0 k s.chain) xs (-(k:Int))).depth=m.depth:=hd9.trans ((Th _).trans hdk);have HLVS:(L.leaves).length<=k+1-(i'+1):=tm hvk (Us _) hik;have HOK9:=fh hok9;have HG9:=fh hg9;clear hok9 hst9 hg9 hc9 hd9;go_roundw
      case measure=>(clear hn hfs hd hcnt hd0 hd1 hsc hchl hck hdk hxk hvk hxl hvl HCNT HDEP HLVS;simp[Ry];try omega)
      case rel=>exact⟨k+1,(⟨lD (zB P.E m0 10 0 k s.chain) xs (-(k:Int)),L.leaves,L.fN,xs⟩:je),aH,aL,bp,L8,rfl,by go_num,SY hik,Tf hle,fh (hR8.drop (fun _ h=>by cases h)),HOK9,HDEP,HCNT,OI hxk aq.out hik (by omega),HLVS,b7,HG9⟩
   have r4:(x'.Kind == 4)=I:=QV.2 k4;by_cases k7:x'.Kind=7
   ·have r7:(x'.Kind == 7)=M:=Rt.2 k7
    by_cases kee:k=e'
    ·as_aux_lemma=>
     have aB:((k:Int) == (e':Int))=M:=by rw[kee];exact beq_self_eq_true _
     obtain⟨m1,bc⟩:∃ m1,lZ P.E m0 0 k s.chain=m1:=⟨_,rfl⟩
     obtain⟨LB,au⟩:∃ LB,kN P.E s k M ⟨m1,L.leaves,L.fN,L.fR⟩=LB:=⟨_,rfl⟩
     have HQ:lF P.E (fun g m=>jL P.E (iX P.E d) (a0++[s.f]) k s g m) (a0++[s.f]) s e' k x' L=⟨LB.m,LB.leaves,L.fN,L.fR⟩:=by
      unfold lF;simp only;rw[QZ k4,Q5 k7,Q5 kee,ab.out,bc];show kN P.E s k M ⟨m1,L.leaves,L.fN,L.fR⟩=_;have h9:=Es P.E s k M m1 L.leaves L.fN L.fR;rw[au] at h9 |-;rw[<-h9.1,<-h9.2]
     have bL : -1000000<=m0.depth/\m0.depth<=1000000:=⟨by omega,by omega⟩
     have bM : -1000000<=m1.depth/\m1.depth<=1000000:=by rw[<-bc];exact⟨by simp only[lZ,fS.gw];omega,by simp only[lZ,fS.gw];omega⟩
     have ck:m1.items.length<=100000:=by rw[<-bc];simp only[lZ,fS.gw,wJ];omega
     have d7:=fh bc;have aK:=fh au;have HHQ:=fh HQ;have ag:R0.length<=100:=by omega
     have a6:m0.items.length<=100000:=by omega
     clear k4 k7 kee bc au HQ bd;go_wp2_with(first | (go_at_call 211;(with_reducible refine(OM aj hsc a6 h00 bL hkI).mono ?_);rw[d7.out];rintro e9 w4 ⟨rfl,L4,hR4⟩) | (go_at_call 212;(with_reducible refine(Io hR4 hR.env hsc ck hvl bM hkI ag).mono ?_);rw[aK.out];rintro e9 w5 ⟨rfl,L5,aR⟩));clear r4 r7;have hok9:=HOK2.out;have hst9:=HST2.out;have hg9:=hG2.out;rw[HHQ.out] at hok9 hst9 hg9;have hc9:=hst9.cnt;have hd9:=hst9.depth;simp only at hc9 hd9;have HCNT:max (LB.m).items.length (200+iO d)<=max m.items.length (200+iO d)+24*(k+1-(i'+1)):=tg hc9 hck hik;have HDEP:(LB.m).depth=m.depth:=hd9.trans ((Th _).trans hdk);have HLVS:(LB.leaves).length<=k+1-(i'+1):=tm hvk (by have h8:=F3 P.E s k M m1 L.leaves L.fN L.fR;rw[aK.out] at h8;exact h8) hik;have HOK9:=fh hok9;have HG9:=fh hg9;clear hok9 hst9 hg9 hc9 hd9;go_roundw
     case measure=>(clear hn hfs hd hcnt hd0 hd1 hsc hchl hck hdk hxk hvk hxl hvl HCNT HDEP HLVS;simp[Ry];try omega)
     case rel=>exact⟨k+1,(⟨LB.m,LB.leaves,L.fN,L.fR⟩:je),Ae,ce,Se,L5,rfl,by go_num,SY hik,Tf hle,fh (aR.drop (fun _ h=>by cases h)),HOK9,HDEP,HCNT,xY hxk hik,HLVS,b7,HG9⟩
    ·as_aux_lemma=>
     have aB:((k:Int) == (e':Int))=I:=QV.2 (by omega);have a6:m0.items.length<=7000:=by omega
     have dR:QP C ((i':Int)+1)=(i':Int)+1:=iw;have bG:fD 10:=⟨by omega,by omega⟩
     obtain⟨mB,cf⟩:∃ mB,ns P.E k s.chain L.fN (k-(i'+1)) (i'+1) m0=mB:=⟨_,rfl⟩
     have HHQ:Hid (lF P.E (fun g m=>jL P.E (iX P.E d) (a0++[s.f]) k s g m) (a0++[s.f]) s e' k x' L=⟨mB,L.leaves,L.fN,L.fR⟩):=fh (by
      unfold lF;simp only;rw[QZ k4,Q5 k7,QZ kee,ab.out,ar.out,Ra,cf]
      rfl)
     have d8:=fh cf;have dm:0<=m0.depth/\m0.depth<=1000:=⟨by omega,by omega⟩
     clear k4 k7 kee cf;go_wp2_with(fail);go_loopw [11] (fun z11 wr=>∃(i:Nat) (m4:fS) (L4:Q Nat),z11=J C i/\i'<i/\i<=k/\Hid (gA [(g8,F #[J C x'.Kind,V x'.Name,G bx x'.fM.length bD,G bz x'.Expr.length bE] 99 (0,0))] P T R0 s W (Lm++Sv) (Z ⟨gh,0,D⟩) P.E.p.length [gh] ⟨m4,L.leaves,L.fN,L.fR⟩ Ae ce Se L4 wr)/\Hid (ns P.E k s.chain L.fN (k-i) i m4=mB)/\m4.items.length<=7000+i/\m4.depth=m0.depth) (fun z11 _=>k-(Ry z11).toNat)
     case atStart=>exact⟨i'+1,m0,L3,by go_num,by omega,by omega,fh aj,d8,by omega,rfl⟩
     case round=>
      obtain⟨i,m4,L4,rfl,dx,dy,hR4,bq,dK,hdp4⟩:=hrel;by_cases hlt4:i<k
      ·have aA:(i:Int)<(k:Int):=by omega
       have c3:i<P.E.p.length:=by omega
       have dB:(i:Int)<(P.E.p.length:Int):=by omega
       have cp:QP C ((i:Int)+1)=(i:Int)+1:=iw;have al:=hR.up (hR4.out.mE);obtain⟨gq,oq,xq,dX,e7,dY,e8,ai,dv,bw,y0,_⟩:=lK al c3;have al:=hR.up (hR4.out.mE);have z0:=hR4.out.ij.1;rw[ai] at z0 al;have af:=hR4.out.hd.1;obtain⟨a5,a1⟩:∃ v,iN P.E.p i=v:=⟨_,rfl⟩
       have aa:=fh a1;have ba:(P.E.p[i]?.map fv.Kind)=Z xq.Kind:=by rw[bw];rfl
       have bP:fD m4.depth:=⟨by omega,by omega⟩
       have bg:m4.items.length<=100000:=by omega
       by_cases heq4:a5=(k:Int)
       ·have aC:(a5 == (k:Int))=M:=Rt.2 heq4
        by_cases hq5:xq.Kind=5
        ·have dV:(xq.Kind == 5)=M:=Rt.2 hq5
         have dw:i<L.fN.length:=by omega
         have bs:L.fN[i]?=Z (L.fN[i]'dw):=QW _;generalize L.fN[i]'dw=hv4 at bs;obtain⟨db,b5,cO,cN,ap,b8,_,_⟩:=hR4.out.head hYW hTlt bs;obtain rfl:db=gh:=by injection b5 with h;injection h with h;exact h.symm
         have HB5:Hid (ns P.E k s.chain L.fN (k-(i+1)) (i+1) (zB P.E m4 10 hv4 k s.chain)=mB):=fh (by
          have h9:=bq.out;rw[Mg hlt4 ⟨by rw[a1,heq4],by rw[ba,hq5]⟩,RG,bs] at h9
          exact h9)
         clear a1 heq4 hq5 ba bw ai bs b5 af;go_wp2_with(first | (go_at_call 160;(with_reducible refine(zbi (Ty.up _ al gF) a9).mono ?_);rw[aa.out];rintro e9 w5 ⟨rfl,hg5⟩;have z0:=za hg5 z0;have y0:=za hg5 y0;have ap:=za hg5 ap) | (go_at_call 203;(with_reducible refine(ya (hR4.out.fx hg5) hsc bg bG b8 hkI bP).mono ?_);rintro e9 w7 ⟨rfl,L7,hR7⟩));go_roundw;exact⟨i+1,_,L7,by go_num,by omega,by omega,fh hR7,HB5,by rw[wJ];omega,hdp4⟩;exact gH
        ·have dV:(xq.Kind == 5)=I:=QV.2 hq5
         have HB5:Hid (ns P.E k s.chain L.fN (k-(i+1)) (i+1) m4=mB):=fh (by
          have h9:=bq.out;rw[GP hlt4 (fun h=>hq5 (by have h8:=h.2;rw[ba] at h8;injection h8))] at h9
          exact h9)
         clear a1 heq4 hq5 ba bw ai af;go_wp2_with(first | (go_at_call 160;(with_reducible refine(zbi (Ty.up _ al gF) a9).mono ?_);rw[aa.out];rintro e9 w5 ⟨rfl,hg5⟩;have z0:=za hg5 z0;have y0:=za hg5 y0));exact vn
       ·have aC:(a5 == (k:Int))=I:=QV.2 heq4
        have HB5:Hid (ns P.E k s.chain L.fN (k-(i+1)) (i+1) m4=mB):=fh (by
         have h9:=bq.out;rw[GP hlt4 (fun h=>heq4 (by rw[<-a1];exact h.1))] at h9
         exact h9)
        clear a1 heq4 ba bw ai af;go_wp2_with(first | (go_at_call 160;(with_reducible refine(zbi (Ty.up _ al gF) a9).mono ?_);rw[aa.out];rintro e9 w5 ⟨rfl,hg5⟩));exact vn
      ·obtain rfl:k=i:=by omega
       have aA:¬ ((k:Int)<(k:Int)):=by omega
       have de:m4=mB:=by
        have h9:=bq.out;rw[Mf] at h9;exact h9
       subst de;go_wp2_with(fail);clear r4 r7;have hok9:=HOK2.out;have hst9:=HST2.out;have hg9:=hG2.out;rw[HHQ.out] at hok9 hst9 hg9;have hc9:=hst9.cnt;have hd9:=hst9.depth;simp only at hc9 hd9;have HCNT:max (m4).items.length (200+iO d)<=max m.items.length (200+iO d)+24*(k+1-(i'+1)):=tg hc9 hck hik;have HDEP:(m4).depth=m.depth:=hd9.trans ((Th _).trans hdk);have HLVS:(L.leaves).length<=k+1-(i'+1):=tm hvk (Us _) hik;have HOK9:=fh hok9;have HG9:=fh hg9;clear hok9 hst9 hg9 hc9 hd9;go_roundw
       case measure=>(clear hn hfs hd hcnt hd0 hd1 hsc hchl hck hdk hxk hvk hxl hvl HCNT HDEP HLVS;simp[Ry];try omega)
       case rel=>exact⟨k+1,(⟨m4,L.leaves,L.fN,L.fR⟩:je),Ae,ce,Se,L4,rfl,by go_num,SY hik,Tf hle,fh (hR4.out.drop (fun _ h=>by cases h)),HOK9,HDEP,HCNT,xY hxk hik,HLVS,b7,HG9⟩
   have r7:(x'.Kind == 7)=I:=QV.2 k7
   have c4:k<e':=by
    rcases Uy k e' with h | h
    ·exact h
    ·exfalso
     obtain rfl:k=e':=by omega
     obtain⟨y,hy,h7⟩:=he.last;rw[HX.out] at hy;injection hy with hy
     exact k7 (by rw[hy];exact h7)
   obtain⟨cD,dk,_,cE⟩:=an k x' hik c4 HX.out;have cS:=zu.1 (hR.env.pc.kind k x' HX.out);have aY:qX x'.Kind=M:=Ck cS cD k4 k7;obtain⟨ee,bS,bQ,dr⟩:=hR.env.pc.expr k x' HX.out aY
   have cW:zQ P.E.p s.locals ee.flat=M:=by
    rw[<-bQ,hs.locals.1,ar.out];exact dk
   obtain⟨L4,hR4⟩:=aj.next (lv':=L.leaves) ((gg.refl aj.st).num (m':=m0.begun) (i:=12) (v:=H M) rfl (fun _ _ _ _ _ _ _ _ _=>rfl));have bt:L.fN[k]?=Z (L.fN[k]'(by omega)):=QW _;generalize L.fN[k]'(by omega)=hv0 at bt;obtain⟨cy,aZ,bZ,bY,bX,c2,c0,_⟩:=aj.head hYW hTlt bt;obtain⟨cz,b4,_,_,_,_,_,bk⟩:=hR4.head hYW hTlt bt;obtain rfl:cy=gh:=by injection aZ with h;injection h with h;exact h.symm
   obtain rfl:cz=cy:=by injection b4 with h;injection h with h;exact h.symm
   obtain⟨nn,cm⟩:∃ n,m0.items.length=n:=⟨_,rfl⟩
   have cV:L.m.items.length=nn:=by rw[<-cm,<-ab.out];exact((s9 _ _ _ _).2).symm
   have cU:fD (nn:Int):=⟨by omega,by omega⟩
   have aR:=bk nn cU;have bb:iB P.E m0.begun:=⟨bB.out.ok.hJ,bB.out.ok.pos⟩
   have aV:jN d=jN (d+1)+30:=by unfold jN;omega
   have bR:=ee.size_pos;have cH:max (m0.begun).items.length (200+iO d)+ee.size<=8000:=by show max m0.items.length _+_<=_;omega
   have ax:0<=(m0.begun).depth:=by show 0<=m0.depth;omega
   have ay:(m0.begun).depth+ee.size<=jN d+1:=by show m0.depth+_<=_;omega
   have ac:=PN hR hs hrep hfs hd hF hn HX.out cR aR bS bQ cW bb cH ax ay;have a8:=Ex.iI hR.env hs cY (k:=(k:Int)) ⟨by omega,by omega⟩ ee m0.begun bS cW bb ax ay;rw[<-AA bS,<-bQ] at a8;obtain⟨m6,cd⟩:∃ m6,sW P.E (fun g m=>jL P.E (iX P.E d) (a0++[s.f]) k s g m) (a0++[s.f]) s k x'.Expr m0.begun=m6:=⟨_,rfl⟩
   rw[cd] at a8 ac;have cF:m6.depth=m0.depth+1:=a8.depth;have dl:m6.items.length<=max m0.items.length (200+iO d)+ee.size:=a8.cnt;have hml6:m6.items.length<=100000:=by omega
   have aD:=fh cd;have da:=fh a8;have aE:=fh cV;obtain⟨Ai,ci,z10⟩:=aj.sr;rw[cm] at z10;obtain⟨z0,z1,z2,z5,z6,z7,z8,z9,bo,zf,zl⟩:=aj.ij;have dL:P.g≠cz:=Ne.symm c0;clear cd a8 cm bk hR4 bt aZ b4 cV z1 z2 z5 z6 z7 z8;go_upto_region 32 with(first | (go_at_call 213;(with_reducible refine ac.mono ?_);rintro e9 w6 ⟨⟨v9,rfl⟩,L6,a3⟩));have aT:=(a3.kb _ (.head _)).1;simp only at aT;clear b0 b1 b2 b3 bf bl aw z0 z9 z10 bo zf zl bX bY bZ;obtain⟨b0,b1,b2,b3,bf,bl⟩:=iJ aT;have dn:0<=m6.depth/\m6.depth<=1000:=⟨by omega,by omega⟩
   have e1:=fh cF;have HHK:Hid ((L.fN.set k (nn:Int)).length=P.E.p.length):=fh (by rw[Rn];exact b7);have hdI6:fD m6.depth:=⟨by omega,by omega⟩
   have dO:QP C (m6.depth-1)=m6.depth-1:=iw;have aU : -1000000<=m6.depth/\m6.depth<=1000000:=⟨by omega,by omega⟩
   have ag:R0.length<=100:=by omega
   have d2:=fh cE;have e6:=fh bm;clear cE cD aY bm;clear cF bd ac b7 cH ax ay dl aV cS dr bR sl c1 dQ cj cU c2 bN ao dH dI c7 dA aW;by_cases k1:x'.Kind=1
   ·as_aux_lemma=>
    have r1:(x'.Kind == 1)=M:=Rt.2 k1;have cQ:=yh s.locals x'.Name 0 (by rw[hs.locals.1,ar.out];exact d2.out k1);obtain⟨ix,ak⟩:∃ v,qH s.locals x'.Name 0=v:=⟨_,rfl⟩
    rw[ak] at cQ;have d4:Hid (lO s.locals x'.Name 0=ix):=fh (by rw[CP,ak])
    have HHQ:Hid (lF P.E (fun g m=>jL P.E (iX P.E d) (a0++[s.f]) k s g m) (a0++[s.f]) s e' k x' L=⟨mW P.E m6 s ix k s.chain,L.leaves,L.fN.set k (nn:Int),L.fR⟩):=fh (by
     unfold lF;simp only;rw[QZ k4,QZ k7,ab.out,aD.out,aE.out,Q5 k1,ak]
     rfl)
    have c8:=hs.locals.2;have dG:s.locals.length<=8796093022208:=by omega
    have dz:0<=ix/\ix<=100:=⟨by omega,by omega⟩
    have dt:=hs.first;have du : -1000<=s.first/\s.first<=1000:=⟨by omega,by omega⟩
    have di:=hR.env.args;have dj:0<=P.E.args/\P.E.args<=100:=⟨by omega,by omega⟩
    obtain⟨gs,cs,Av,cv,cr,s0,s1,s2,s3,s4,s5,sl,sf,aO,oP,cX⟩:=a3.row;simp only at s5;have e0:=fh cX;clear k1 k4 k7 ak cQ c8 dt di cX;go_upto_region 40 with(fail);go_cut [12] from 226 to 237 (fun v wx=>∃ ah,v=.pointer (Z ⟨ah,0,D⟩)/\ft w6 wx/\wx.heap[ah]?=Z (F #[J C s.f,G T.Ac s.chain.length T.cc,G T.Al s.locals.length T.cl,J C s.first,H s.outer,G Av L.leaves.length cv] 253 (0,0))/\w6.heap.size<=ah)
    case first=>
     go_region_held3 (fun w'=>QL w' ⟨P.g,11,D⟩=Z (G (Z ⟨gs,0,D⟩) (R0.length+1) cs)/\QL w' ⟨gs,R0.length*6,D⟩=Z (J C s.f)/\QL w' ⟨gs,R0.length*6+1,D⟩=Z (G T.Ac s.chain.length T.cc)/\QL w' ⟨gs,R0.length*6+2,D⟩=Z (G T.Al s.locals.length T.cl)/\QL w' ⟨gs,R0.length*6+3,D⟩=Z (J C s.first)/\QL w' ⟨gs,R0.length*6+4,D⟩=Z (H s.outer)/\QL w' ⟨gs,R0.length*6+5,D⟩=Z (G Av L.leaves.length cv)) ((repeat' apply QQ) <;> ((repeat (first | with_reducible assumption | with_reducible refine zd ?_ _ _ | with_reducible refine zk ?_ _ | with_reducible refine zc ?_ | with_reducible refine DW ?_ _));done)) (fail)
     all_goals go_wp2_with(fail)
     all_goals go_meet
     all_goals exact⟨_,rfl,gF,zj (QO w6 _) gF,Q8 _⟩
    case rest=>
     obtain⟨ah,rfl,az,av,c6⟩:=hcut;obtain⟨o0,o1,o2,o3,o4,o5,of,ol⟩:=mM av;have dg:=a3.Bl az av c6;have dd:=Ty.up _ aO az;have b1:=za az b1;clear cr s0 s1 s2 s3 s4 s5 sf aO b0 b2 b3 bf bl av;go_upto_region 41 with(fail);go_region_held3 (fun w'=>QL w' ⟨ah,0,D⟩=Z (J C s.f)/\QL w' ⟨ah,1,D⟩=Z (G T.Ac s.chain.length T.cc)/\QL w' ⟨ah,2,D⟩=Z (G T.Al s.locals.length T.cl)/\QL w' ⟨ah,3,D⟩=Z (J C s.first)/\QL w' ⟨ah,4,D⟩=Z (H s.outer)/\QL w' ⟨ah,5,D⟩=Z (G Av L.leaves.length cv)/\QL w' ⟨g8,1,D⟩=Z (V x'.Name)) ((repeat' apply QQ) <;> ((repeat (first | with_reducible assumption | with_reducible refine zd ?_ _ _ | with_reducible refine zk ?_ _ | with_reducible refine zc ?_ | with_reducible refine DW ?_ _));done)) (first | (go_at_call 193;(with_reducible refine(zfh (xs:=s.locals) (Ty.up _ dd gF) dG).mono ?_);rw[d4.out];rintro e v1 ⟨rfl,a2⟩;have a7:ft wc v1:=ft.trans (b:=_) gF a2;have o0:=za a2 o0;have o1:=za a2 o1;have o2:=za a2 o2;have o3:=za a2 o3;have o4:=za a2 o4;have o5:=za a2 o5;have b1:=za a2 b1) | (go_at_call 214;(with_reducible refine(OS (s:=s) (dg.fx (ft.trans (b:=_) a7 gF)) hsc hml6 dz aU du dj hkI).mono ?_);rintro e w7 ⟨rfl,L7,hR7⟩;obtain⟨o0,o1,o2,o3,o4,o5,of,ol⟩:=mM (hR7.kb _ (.head _)).1;have b1:=(iJ (hR7.kb _ (.tail _ (.head _))).1).2.1));go_wp2_with(fail);clear r4 r7 r1;have hok9:=HOK2.out;have hst9:=HST2.out;have hg9:=hG2.out;rw[HHQ.out] at hok9 hst9 hg9;have hc9:=hst9.cnt;have hd9:=hst9.depth;simp only at hc9 hd9;have HCNT:max (mW P.E m6 s ix k s.chain).items.length (200+iO d)<=max m.items.length (200+iO d)+24*(k+1-(i'+1)):=tg hc9 hck hik;have HDEP:(mW P.E m6 s ix k s.chain).depth=m.depth:=hd9.trans ((Th _).trans hdk);have HLVS:(L.leaves).length<=k+1-(i'+1):=tm hvk (Us _) hik;have HOK9:=fh hok9;have HG9:=fh hg9;clear hok9 hst9 hg9 hc9 hd9;go_roundw
     case measure=>(clear hn hfs hd hcnt hd0 hd1 hsc hchl hck hdk hxk hvk hxl hvl HCNT HDEP HLVS;simp[Ry];try omega)
     case rel=>exact⟨k+1,(⟨mW P.E m6 s ix k s.chain,L.leaves,L.fN.set k (nn:Int),L.fR⟩:je),Ae,ce,Se,L7,rfl,by go_num,SY hik,Tf hle,fh (hR7.drop (fun _ h=>by cases h)),HOK9,HDEP,HCNT,xY hxk hik,HLVS,HHK.out,HG9⟩
   have r1:(x'.Kind == 1)=I:=QV.2 k1;by_cases k2:x'.Kind=2
   ·as_aux_lemma=>
    have r2:(x'.Kind == 2)=M:=Rt.2 k2;have dc:fD 17:=⟨by omega,by omega⟩
    have HHQ:Hid (lF P.E (fun g m=>jL P.E (iX P.E d) (a0++[s.f]) k s g m) (a0++[s.f]) s e' k x' L=⟨(zB P.E m6 17 0 k s.chain).gw (m6.depth-1),L.leaves,L.fN.set k (nn:Int),L.fR⟩):=fh (by
     unfold lF;simp only;rw[QZ k4,QZ k7,ab.out,aD.out,aE.out,QZ k1,Q5 k2]
     rfl)
    clear k1 k2 k4 k7;go_wp2_with(first | (go_at_call 203;(with_reducible refine(ya a3 hsc hml6 dc h00 hkI hdI6).mono ?_);rintro e9 w7 ⟨rfl,L7,hR7⟩;have y9:QL w7 ⟨P.g,9,D⟩=Z (J C m6.depth):=hR7.ij.2.2.2.2.2.2.2.1;have yf:=hR7.ij.2.2.2.2.2.2.2.2.2.1;have yl:=hR7.ij.2.2.2.2.2.2.2.2.2.2));obtain⟨L8,hR8⟩:=hR7.next (lv':=L.leaves) ((gg.refl hR7.st).num (m':=(zB P.E m6 17 0 k s.chain).gw (m6.depth-1)) (i:=9) (v:=J C (m6.depth-1)) rfl (fun _ _ _ _ _ _ _ _ _=>rfl));clear r4 r7 r1 r2;have hok9:=HOK2.out;have hst9:=HST2.out;have hg9:=hG2.out;rw[HHQ.out] at hok9 hst9 hg9;have hc9:=hst9.cnt;have hd9:=hst9.depth;simp only at hc9 hd9;have HCNT:max ((zB P.E m6 17 0 k s.chain).gw (m6.depth-1)).items.length (200+iO d)<=max m.items.length (200+iO d)+24*(k+1-(i'+1)):=tg hc9 hck hik;have HDEP:((zB P.E m6 17 0 k s.chain).gw (m6.depth-1)).depth=m.depth:=hd9.trans ((Th _).trans hdk);have HLVS:(L.leaves).length<=k+1-(i'+1):=tm hvk (Us _) hik;have HOK9:=fh hok9;have HG9:=fh hg9;clear hok9 hst9 hg9 hc9 hd9;go_roundw
    case measure=>(clear hn hfs hd hcnt hd0 hd1 hsc hchl hck hdk hxk hvk hxl hvl HCNT HDEP HLVS;simp[Ry];try omega)
    case rel=>exact⟨k+1,(⟨(zB P.E m6 17 0 k s.chain).gw (m6.depth-1),L.leaves,L.fN.set k (nn:Int),L.fR⟩:je),Ae,ce,Se,L8,rfl,by go_num,SY hik,Tf hle,fh (hR8.drop (fun _ h=>by cases h)),HOK9,HDEP,HCNT,xY hxk hik,HLVS,HHK.out,HG9⟩
   have r2:(x'.Kind == 2)=I:=QV.2 k2;by_cases k6:x'.Kind=6
   ·as_aux_lemma=>
    have r6:(x'.Kind == 6)=M:=Rt.2 k6;obtain⟨LB,au⟩:∃ LB,kN P.E s k I ⟨m6,L.leaves,L.fN.set k (nn:Int),L.fR⟩=LB:=⟨_,rfl⟩
    have aK:=fh au
    have HHQ:Hid (lF P.E (fun g m=>jL P.E (iX P.E d) (a0++[s.f]) k s g m) (a0++[s.f]) s e' k x' L=⟨LB.m,LB.leaves,L.fN.set k (nn:Int),L.fR⟩):=fh (by
     unfold lF;simp only;rw[QZ k4,QZ k7,ab.out,aD.out,aE.out,QZ k1,QZ k2,Q5 k6];have h9:=Es P.E s k I m6 L.leaves (L.fN.set k (nn:Int)) L.fR;rw[au] at h9 |-
     rw[<-h9.1,<-h9.2])
    clear k1 k2 k4 k7 k6 au;go_wp2_with(first | (go_at_call 212;(with_reducible refine(Io a3 hR.env hsc hml6 hvl aU hkI ag).mono ?_);rw[aK.out];rintro e9 w5 ⟨rfl,L5,aR⟩));clear r4 r7 r1 r2 r6;have hok9:=HOK2.out;have hst9:=HST2.out;have hg9:=hG2.out;rw[HHQ.out] at hok9 hst9 hg9;have hc9:=hst9.cnt;have hd9:=hst9.depth;simp only at hc9 hd9;have HCNT:max (LB.m).items.length (200+iO d)<=max m.items.length (200+iO d)+24*(k+1-(i'+1)):=tg hc9 hck hik;have HDEP:(LB.m).depth=m.depth:=hd9.trans ((Th _).trans hdk);have HLVS:(LB.leaves).length<=k+1-(i'+1):=tm hvk (by have h8:=F3 P.E s k I m6 L.leaves (L.fN.set k (nn:Int)) L.fR;rw[aK.out] at h8;exact h8) hik;have HOK9:=fh hok9;have HG9:=fh hg9;clear hok9 hst9 hg9 hc9 hd9;go_roundw
    case measure=>(clear hn hfs hd hcnt hd0 hd1 hsc hchl hck hdk hxk hvk hxl hvl HCNT HDEP HLVS;simp[Ry];try omega)
    case rel=>exact⟨k+1,(⟨LB.m,LB.leaves,L.fN.set k (nn:Int),L.fR⟩:je),Ae,ce,Se,L5,rfl,by go_num,SY hik,Tf hle,fh (aR.drop (fun _ h=>by cases h)),HOK9,HDEP,HCNT,xY hxk hik,HLVS,HHK.out,HG9⟩
   have r6:(x'.Kind == 6)=I:=QV.2 k6;obtain⟨ev,cJ⟩:∃ v,iN P.E.p k=v:=⟨_,rfl⟩
   have ds : -1<=ev/\ev<=60:=by
    rcases vJ P.E.p k with h | ⟨a,e2,h,h2,h3⟩
    ·omega
    ·have:=h3.len;omega
   have aJ:=fh cJ;have ei:QP C (ev+1)=ev+1:=iw;have cG:fD (ev+1):=⟨by omega,by omega⟩
   have aG:fD (m6.items.length:Int):=⟨by omega,by omega⟩
   have h11:fD 11:=⟨by omega,by omega⟩
   have bi:=hR.up a3.mE;have z0:=a3.ij.1;clear cJ;by_cases k3:x'.Kind=3
   ·have r3:(x'.Kind == 3)=M:=Rt.2 k3
    obtain⟨el,aF⟩:∃ v,kh P.E.p k=v:=⟨_,rfl⟩
    have dq : -1<=el/\el<=60:=by
     rcases DY P.E.p k with h | ⟨j,h,h2⟩
     ·omega
     ·have:=h2.lt;obtain⟨z,hz,_⟩:=h2.Bn;have:=(QM.1 hz).1;omega
    have cw:=fh aF;have dS:QP C (-el) = -el:=iw;by_cases hge:0<=el
    ·as_aux_lemma=>
     have bU:el≥0:=hge;have am:fD (-el):=⟨by omega,by omega⟩
     have HHQ:Hid (lF P.E (fun g m=>jL P.E (iX P.E d) (a0++[s.f]) k s g m) (a0++[s.f]) s e' k x' L=⟨(zB P.E m6 11 0 k s.chain).gw (m6.depth-1),L.leaves,L.fN.set k (nn:Int),L.fR++[(-el,(m6.items.length:Int))]⟩):=fh (by
      unfold lF;simp only
      rw[QZ k4,QZ k7,ab.out,aD.out,aE.out,QZ k1,QZ k2,QZ k6,Q5 ⟨k3,by rw[aF];exact hge⟩,aF])
     clear k1 k2 k3 k4 k6 k7 aF;go_upto_region 36 with(first | (go_at_call 160;(with_reducible refine(zbi (Ty.up _ bi gF) a9).mono ?_);rw[aJ.out];rintro e9 dW ⟨rfl,a7⟩;have b0:=za a7 b0;have z0:=za a7 z0) | (go_at_call 192;(with_reducible refine(zgI (Ty.up _ bi gF) a9).mono ?_);rw[cw.out];rintro e9 bn ⟨rfl,ae⟩;have z0:=za ae z0;have a7:=ft.trans a7 ae));have hR7:=a3.fx a7;obtain⟨ct,cx,z10⟩:=hR7.sr;have hra:qM.R bn bn.heap.size [J C (-el),J C (m6.items.length:Int)] ((-el),(m6.items.length:Int)):=⟨[J C (-el)],[J C (m6.items.length:Int)],rfl,⟨rfl,am.1,am.2⟩,⟨rfl,aG.1,aG.2⟩⟩
     have zf7:=hR7.ij.2.2.2.2.2.2.2.2.2.1;go_upto_region 37 with(first | (at_builtin;refine zA (L:=L.fR.length+1) rfl (.tmp 203) (.tmp 211) Dr C9 (hR7.ex.fx gF) hra rfl rfl rfl (by intro j u hu;simpa[go_sem] using hu) rfl (by omega) (by omega) ?_;intro A9 c9 w9 S9 hon hH9 hS9));have hR8:=gA.fR (xs:=L.fR++[(-el,(m6.items.length:Int))]) (hR7.fx gF) hYW hTlt (gA.xo (hR7.fx gF)) hon (by rw[QR];exact hH9) hS9;have hl9:(L.fR++[((-el),(m6.items.length:Int))]).length=L.fR.length+1:=by rw[QR];rfl
     have HL9:=fh hl9;clear hl9 hra zf7 b0 z10;go_wp2_with(first | (go_at_call 203;(with_reducible refine(ya hR8 hsc hml6 h11 h00 hkI hdI6).mono ?_);rintro e9 w10 ⟨rfl,L10,hR10⟩;have y9:QL w10 ⟨P.g,9,D⟩=Z (J C m6.depth):=hR10.ij.2.2.2.2.2.2.2.1;have yf:=hR10.ij.2.2.2.2.2.2.2.2.2.1;have yl:=hR10.ij.2.2.2.2.2.2.2.2.2.2));obtain⟨L11,hR11⟩:=hR10.next (lv':=L.leaves) ((gg.refl hR10.st).num (m':=(zB P.E m6 11 0 k s.chain).gw (m6.depth-1)) (i:=9) (v:=J C (m6.depth-1)) rfl (fun _ _ _ _ _ _ _ _ _=>rfl));rw[<-HL9.out];clear r4 r7 r1 r2 r6 r3;have hok9:=HOK2.out;have hst9:=HST2.out;have hg9:=hG2.out;rw[HHQ.out] at hok9 hst9 hg9;have hc9:=hst9.cnt;have hd9:=hst9.depth;simp only at hc9 hd9;have HCNT:max ((zB P.E m6 11 0 k s.chain).gw (m6.depth-1)).items.length (200+iO d)<=max m.items.length (200+iO d)+24*(k+1-(i'+1)):=tg hc9 hck hik;have HDEP:((zB P.E m6 11 0 k s.chain).gw (m6.depth-1)).depth=m.depth:=hd9.trans ((Th _).trans hdk);have HLVS:(L.leaves).length<=k+1-(i'+1):=tm hvk (Us _) hik;have HOK9:=fh hok9;have HG9:=fh hg9;clear hok9 hst9 hg9 hc9 hd9;go_roundw
     case measure=>(clear hn hfs hd hcnt hd0 hd1 hsc hchl hck hdk hxk hvk hxl hvl HCNT HDEP HLVS;simp[Ry];try omega)
     case rel=>exact⟨k+1,(⟨(zB P.E m6 11 0 k s.chain).gw (m6.depth-1),L.leaves,L.fN.set k (nn:Int),L.fR++[((-el),(m6.items.length:Int))]⟩:je),A9,c9,S9,L11,rfl,by go_num,SY hik,Tf hle,fh (hR11.drop (fun _ h=>by cases h)),HOK9,HDEP,HCNT,EV hxk hik,HLVS,HHK.out,HG9⟩
    ·as_aux_lemma=>
     have bU:¬ (el≥0):=hge;have am:=cG
     have HHQ:Hid (lF P.E (fun g m=>jL P.E (iX P.E d) (a0++[s.f]) k s g m) (a0++[s.f]) s e' k x' L=⟨(zB P.E m6 11 0 k s.chain).gw (m6.depth-1),L.leaves,L.fN.set k (nn:Int),L.fR++[(ev+1,(m6.items.length:Int))]⟩):=fh (by
      unfold lF;simp only
      rw[QZ k4,QZ k7,ab.out,aD.out,aE.out,QZ k1,QZ k2,QZ k6,QZ (fun h=>hge (by rw[<-aF];exact h.2)),aJ.out])
     clear k1 k2 k3 k4 k6 k7 aF;go_upto_region 36 with(first | (go_at_call 160;(with_reducible refine(zbi (Ty.up _ bi gF) a9).mono ?_);rw[aJ.out];rintro e9 dW ⟨rfl,a7⟩;have b0:=za a7 b0;have z0:=za a7 z0) | (go_at_call 192;(with_reducible refine(zgI (Ty.up _ bi gF) a9).mono ?_);rw[cw.out];rintro e9 bn ⟨rfl,ae⟩;have z0:=za ae z0;have a7:=ft.trans a7 ae));have hR7:=a3.fx a7;obtain⟨ct,cx,z10⟩:=hR7.sr;have hra:qM.R bn bn.heap.size [J C (ev+1),J C (m6.items.length:Int)] ((ev+1),(m6.items.length:Int)):=⟨[J C (ev+1)],[J C (m6.items.length:Int)],rfl,⟨rfl,am.1,am.2⟩,⟨rfl,aG.1,aG.2⟩⟩
     exact yA
   as_aux_lemma=>
   have r3:(x'.Kind == 3)=I:=QV.2 k3
   have HHQ:Hid (lF P.E (fun g m=>jL P.E (iX P.E d) (a0++[s.f]) k s g m) (a0++[s.f]) s e' k x' L=⟨(zB P.E m6 11 0 k s.chain).gw (m6.depth-1),L.leaves,L.fN.set k (nn:Int),L.fR++[(ev+1,(m6.items.length:Int))]⟩):=fh (by
    unfold lF;simp only
    rw[QZ k4,QZ k7,ab.out,aD.out,aE.out,QZ k1,QZ k2,QZ k6,QZ (fun h=>k3 h.1),aJ.out])
   clear k1 k2 k3 k4 k6 k7;go_upto_region 36 with(first | (go_at_call 160;(with_reducible refine(zbi (Ty.up _ bi gF) a9).mono ?_);rw[aJ.out];rintro e9 w7 ⟨rfl,cM⟩;have b0:=za cM b0));have hR7:=a3.fx cM;obtain⟨ct,cx,z10⟩:=hR7.sr;have am:=cG;have hra:qM.R w7 w7.heap.size [J C (ev+1),J C (m6.items.length:Int)] ((ev+1),(m6.items.length:Int)):=⟨[J C (ev+1)],[J C (m6.items.length:Int)],rfl,⟨rfl,am.1,am.2⟩,⟨rfl,aG.1,aG.2⟩⟩
   exact yA
  ·obtain rfl:k=e'+1:=by omega
   have ec:¬ (((e'+1:Nat):Int)<=(e':Int)):=by omega
   have dC:¬ ((e':Int)+1<=(e':Int)):=by omega
   have HL:Hid (L=LF):=fh (by have h9:=hG.out;rw[RP] at h9;rw[<-h9];cases P.E.p.drop (e'+1) <;> rfl);go_wp2_with(fail);exact Rz (v:=.tuple #[]) (by simp[Rd,results204,go_sem]) rfl ⟨rfl,by rw[d6.out,<-HL.out];exact⟨L',a4.out.st,a4.out.on,a4.out.nw⟩⟩
end Go.Proofs.YthgbglbaemelhaaGreat
