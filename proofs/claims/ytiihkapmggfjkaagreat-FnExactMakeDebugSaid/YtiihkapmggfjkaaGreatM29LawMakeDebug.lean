/-
  PART.
-/
import Derived.Test.YtiihkapmggfjkaaGreatM28LawMakeDebug
set_option linter.unusedVariables false
set_option linter.unusedSimpArgs false
set_option maxRecDepth 100000
set_option maxHeartbeats 8000000
namespace Go.Proofs.YtiihkapmggfjkaaGreat
open Value renaming slice->J,int->F,bool->X,string->G
open IntKind renaming i64->I,wrap->Ll
open Option renaming none->V,some->H
open Obj renaming cells->C
open Bool renaming false->U,true->M
open Go renaming World->N,results->Ly,Value->LA,Addr->Mh,madeCells->Nm,yielded->NA
open World renaming cell?->Lg,frozen?->LD
open _root_.Int renaming toNat_natCast->Lw
open List renaming length_cons->LJ,length_singleton->Mj,replicate->Mz
open RowKit renaming intOf->Ml
open Region renaming wanted->MI,ready->MK,noSelect->ND,free->Oq
open Tryz
open Go.RowKit
variable {Ae Ah:K Mh}{B:Q (Nat × Obj)}{L' L0 Se Sh:Q Nat}{P:ig}{R0:Q (Q LA)}{T:gT}{W wr:N}{a b ce ch g i j k:Nat}{chain fR:Q Int}{item:Int}{m:fW}{p:Q fG}{s:fL}
theorem Fc {α:Type} {xs:Q α} {x:α} (h:xs[k]?=H x):xs.drop k=x::xs.drop (k+1):=by
 obtain⟨h1,rfl⟩:=Lh.1 h;exact LI h1
theorem qW {c Lf:Nat} (h1:a<=max b Lf+24)(h2:max b Lf<=max c Lf+24*(k-(i+1)))(hi:i<k):max a Lf<=max c Lf+24*(k+1-(i+1)):=by omega
theorem uQ (h:a<=62*(k-(i+1)))(_hi:i<k):a<=62*(k+1-(i+1)):=by omega
theorem qZ (h:a<=k-(i+1))(h2:b<=a+1)(hi:i<k):b<=k+1-(i+1):=by omega
theorem BN (E:gd)(s:fL)(k:Int)(last:Bool)(m:fW)(lv hd:Q Int)(ex:Q (Int × Int)):(zR E s k last ⟨m,lv,hd,ex⟩).fR=hd/\(zR E s k last ⟨m,lv,hd,ex⟩).fT=ex:=by
 unfold zR;split
 ·split <;> exact⟨rfl,rfl⟩
 ·split <;> exact⟨rfl,rfl⟩
theorem Dq (E:gd)(s:fL)(k:Int)(last:Bool)(m:fW)(lv hd:Q Int)(ex:Q (Int × Int)):(zR E s k last ⟨m,lv,hd,ex⟩).leaves.length<=lv.length+1:=by
 unfold zR;split
 ·split <;> simp[iN.wm]
 ·split <;> simp[iN.wm]
theorem gH.lY {L:iN} (h:gH B P T R0 s W L0 Ah ch Sh L Ae ce Se L' wr):fF P.Y wr:=by
 obtain⟨Av,cv,Sv,Lm,h1,_⟩:=h.st;exact h1.st.iX.2.2.2.2
theorem gH.iG {B:Q (Nat × Obj)}{P:ig}{T:gT}{R0:Q (Q LA)}{s:fL}{W:N}{L0:Q Nat}{Ah:K Mh}{ch:Nat}{Sh:Q Nat}{L:iN}{Ae:K Mh}{ce:Nat}{Se L':Q Nat}{wr:N}(h:gH B P T R0 s W L0 Ah ch Sh L Ae ce Se L' wr) :
  Lg wr ⟨P.g,0,V⟩=H (J P.A P.E.p.length P.c)/\Lg wr ⟨P.g,1,V⟩=H (F I P.b.Frames)/\Lg wr ⟨P.g,2,V⟩=H (F I P.E.inl)/\Lg wr ⟨P.g,5,V⟩=H (X P.E.gm)/\Lg wr ⟨P.g,6,V⟩=H (F I P.E.words)/\Lg wr ⟨P.g,7,V⟩=H (F I L.m.gK)/\Lg wr ⟨P.g,8,V⟩=H (F I P.E.args)/\Lg wr ⟨P.g,9,V⟩=H (F I L.m.depth)/\Lg wr ⟨P.g,12,V⟩=H (X L.m.start)/\(∀ j,LD wr ⟨P.g,j,V⟩=U)/\P.g<wr.heap.size:=by
 obtain⟨Av,cv,Sv,Lm,h1,_⟩:=h.st;exact h1.st.iG
theorem gH.p8 {B:Q (Nat × Obj)}{P:ig}{T:gT}{R0:Q (Q LA)}{s:fL}{W:N}{L0:Q Nat}{Ah:K Mh}{ch:Nat}{Sh:Q Nat}{L:iN}{Ae:K Mh}{ce:Nat}{Se L':Q Nat}{wr:N}(h:gH B P T R0 s W L0 Ah ch Sh L Ae ce Se L' wr):∃ Ai ci,Lg wr ⟨P.g,10,V⟩=H (J Ai L.m.items.length ci):=by
 obtain⟨Av,cv,Sv,Lm,h1,_⟩:=h.st;exact h1.st.p8
theorem Co {a:Q (Int × Int)} {x:Int × Int} (h:a.length<=62*(k-(i+1)))(hi:i<k):(a++[x]).length<=62*(k+1-(i+1)):=by
 rw[Lj,Mj];omega
theorem JI (h:a<=62*(k-(i+1)))(hb:b<=a+(k-i))(hi:i<k)(hk:k<=60):b<=62*(k+1-(i+1)):=by omega
theorem Bf (p:Q fG)(k item:Int):∀(n i:Nat),(lI p k item n i).length<=n
 | 0,_=>Lz _
 | n+1,i=>by
  have:=Bf p k item n (i+1);unfold lI;split
  ·rw[LJ];omega
  ·omega
theorem Ff {k:Int} (h:i<j)(he:zx p i=k):lI p k item (j-i) i=(zJ p i+1,item)::lI p k item (j-(i+1)) (i+1):=by
 rw[show j-i=j-(i+1)+1 from by omega];show (if zx p i=k then _ else _)=_;rw[Lu he]
theorem FK {k:Int} (h:i<j)(he:¬ zx p i=k):lI p k item (j-i) i=lI p k item (j-(i+1)) (i+1):=by
 rw[show j-i=j-(i+1)+1 from by omega];show (if zx p i=k then _ else _)=_;rw[Lt he]
theorem Fe {k:Int}:lI p k item (i-i) i = []:=by rw[Mq];rfl
theorem It {E:gd} {k:Int} (h:i<j)(he:zJ E.p i=k/\(E.p[i]?.map fG.Kind)=H 5):lK E k chain fR (j-i) i m=lK E k chain fR (j-(i+1)) (i+1) (zv E m 10 (fR.getD i 0) k chain):=by
 rw[show j-i=j-(i+1)+1 from by omega];show lK E k chain fR _ _ (if _ then _ else _)=_;rw[Lu he]
theorem DH {E:gd} {k:Int} (h:i<j)(he:¬ (zJ E.p i=k/\(E.p[i]?.map fG.Kind)=H 5)):lK E k chain fR (j-i) i m=lK E k chain fR (j-(i+1)) (i+1) m:=by
 rw[show j-i=j-(i+1)+1 from by omega];show lK E k chain fR _ _ (if _ then _ else _)=_;rw[Lt he]
theorem Is {E:gd} {k:Int}:lK E k chain fR (i-i) i m=m:=by rw[Mq];rfl
theorem Bz {w:N} {p:Mh} {v:LA} (h:w.cell? p=H v)(n:Nat):(w.drewN n).cell? p=H v:=za ((fF.refl _).drewN n) h
theorem gH.s6 {L:iN} {w2:N} {o:Obj} (h:gH B P T R0 s W L0 Ah ch Sh L Ae ce Se L' wr)(hg:fF wr w2)(hb:w2.heap[g]?=H o)(hl:wr.heap.size<=g):gH ((g,o)::B) P T R0 s W L0 Ah ch Sh L Ae ce Se L' w2:=by
 have h1:=h.fO hg;refine⟨h1.st,h1.on,h1.nw,h1.hd,h1.ex,h1.dh,h1.de,fun p hp=>?_⟩;rcases LU.1 hp with rfl | hp
 ·exact⟨hb,fun hm=>by have:=h.uo _ hm;simp only at this;omega,fun hm=>by have:=h.hd.lt _ hm;simp only at this;omega,fun hm=>by have:=h.ex.lt _ hm;simp only at this;omega⟩
 ·exact h1.kb p hp
theorem gH.row {B:Q (Nat × Obj)}{P:ig}{T:gT}{R0:Q (Q LA)}{s:fL}{W:N}{L0:Q Nat}{Ah:K Mh}{ch:Nat}{Sh:Q Nat}{L:iN}{Ae:K Mh}{ce:Nat}{Se L':Q Nat}{wr:N}(h:gH B P T R0 s W L0 Ah ch Sh L Ae ce Se L' wr):∃ gs cs Av cv,
  Lg wr ⟨P.g,11,V⟩=H (J (H ⟨gs,0,V⟩) (R0.length+1) cs)/\Lg wr ⟨gs,R0.length*6,V⟩=H (F I s.f)/\Lg wr ⟨gs,R0.length*6+1,V⟩=H (J T.Ac s.chain.length T.cc)/\Lg wr ⟨gs,R0.length*6+2,V⟩=H (J T.Al s.locals.length T.cl)/\Lg wr ⟨gs,R0.length*6+3,V⟩=H (F I s.first)/\Lg wr ⟨gs,R0.length*6+4,V⟩=H (X s.outer)/\Lg wr ⟨gs,R0.length*6+5,V⟩=H (J Av L.leaves.length cv)/\gs<wr.heap.size/\(∀ j,LD wr ⟨gs,j,V⟩=U)/\
  (iH.sl 9).R wr wr.heap.size [J T.Al s.locals.length T.cl] s.locals/\∃ o,wr.heap[P.g]?=H o:=by
 obtain⟨Av,cv,Sv,Lm,hB,_⟩:=h.st;obtain⟨gs,cs,a0,h0,h1,h2,h3,h4,h5,hl,_,hf,_⟩:=hB.row;obtain⟨Ai,ci,Si,As,a1,Ss,hM,_⟩:=id hB.st;exact⟨gs,cs,Av,cv,a0,h0,h1,h2,h3,h4,h5,hl,hf,hB.locals.read,_,hM.box⟩
theorem BW (w:N):∀ n,Rows zF w (Mz n (F I 0)) (Mz n 0) []
 | 0=>⟨rfl,rfl⟩
 | n+1=>by
  rw[List.replicate_succ,List.replicate_succ];exact⟨[F I 0],Mz n (F I 0),[],[],rfl,rfl,⟨rfl,by decide,by decide,rfl⟩,BW w n⟩
theorem GV (n:Nat):(Nm #[F I 0] n).toList=Mz n (F I 0):=by
 apply List.ext_getElem
 ·simp[Nm]
 ·intro i h1 h2
  simp[Nm,Nat.mod_one]
theorem Ij {n:Nat} (hg:W.heap[g]?=H (C (Nm #[F I 0] n) 3 (0,0)))(hn:n<=9223372036854775807):Has (zF.sl 3) W [J (H ⟨g,0,V⟩) n n] (Mz n 0) [g]:=by
 have h:=qq (T:=zF) (xs:=Mz n (0:Int)) (S:=[]) hg (by rw[GV];exact BW W n) (by rw[Oa];exact hn);rw[Oa] at h;exact⟨h,by simp⟩
theorem vu {g:Prop} (f:g:=by
  have zf7:=hR7.iG.2.2.2.2.2.2.2.2.2.1
  go_upto_region 37 with(first | (at_builtin;refine zr (L:=L.fT.length+1) rfl (.tmp 203) (.tmp 211) AN Ag (hR7.ex.fO gF) hra rfl rfl rfl (by intro j u hu;simpa[go_sem] using hu) rfl (by omega) (by omega) ?_;intro A9 c9 w9 S9 hon hH9 hS9))
  have hR8:=gH.fT (xs:=L.fT++[(ev+1,(m6.items.length:Int))]) (hR7.fO gF) hYW hTlt (gH.uo (hR7.fO gF)) hon (by rw[Lj];exact hH9) hS9
  have hl9:(L.fT++[((ev+1),(m6.items.length:Int))]).length=L.fT.length+1:=by rw[Lj];rfl
  have HL9:=fE hl9
  clear hl9 hra zf7 b0 z10
  go_wp2_with(first | (go_at_call 221;(with_reducible refine(vh hR8 hsc hml6 h11 h00 hkI hdI6).mono ?_);rintro e9 w10 ⟨rfl,L10,hR10⟩;have y9:Lg w10 ⟨P.g,9,V⟩=H (F I m6.depth):=hR10.iG.2.2.2.2.2.2.2.1;have yf:=hR10.iG.2.2.2.2.2.2.2.2.2.1;have yl:=hR10.iG.2.2.2.2.2.2.2.2.2.2))
  obtain⟨L11,hR11⟩:=hR10.next (lv':=L.leaves) ((gA.refl hR10.st).num (m':=(zv P.E m6 11 0 k s.chain).fZ (m6.depth-1)) (i:=9) (v:=F I (m6.depth-1)) rfl (fun _ _ _ _ _ _ _ _ _=>rfl))
  rw[<-HL9.out]
  clear r4 r7 r1 r2 r6 r3
  have hok9:=HOK2.out
  have hst9:=HST2.out
  have hg9:=hG2.out
  rw[HHQ.out] at hok9 hst9 hg9
  have hc9:=hst9.cnt
  have hd9:=hst9.depth
  simp only at hc9 hd9
  have HCNT:max ((zv P.E m6 11 0 k s.chain).fZ (m6.depth-1)).items.length (200+iE d)<=max m.items.length (200+iE d)+24*(k+1-(i'+1)):=qW hc9 hck hik
  have HDEP:((zv P.E m6 11 0 k s.chain).fZ (m6.depth-1)).depth=m.depth:=hd9.trans ((Ns _).trans hdk)
  have HLVS:(L.leaves).length<=k+1-(i'+1):=qZ hvk (NK _) hik
  have HOK9:=fE hok9
  have HG9:=fE hg9
  clear hok9 hst9 hg9 hc9 hd9
  go_roundw
  case measure=>(clear hn hfs hd hcnt hd0 hd1 hsc hchl hck hdk hxk hvk hxl hvl HCNT HDEP HLVS;simp[Ml];try omega)
  case rel=>exact⟨k+1,(⟨(zv P.E m6 11 0 k s.chain).fZ (m6.depth-1),L.leaves,L.fR.set k (nn:Int),L.fT++[((ev+1),(m6.items.length:Int))]⟩:iN),A9,c9,S9,L11,rfl,by go_num,MO hik,MS hle,fE (hR11.drop (fun _ h=>by cases h)),HOK9,HDEP,HCNT,Co hxk hik,HLVS,HHK.out,HG9⟩):g:=f
theorem sU {g:Prop} (f:g:=by
  go_roundw
  exact⟨i+1,m4,L4,by go_num,by omega,by omega,fE (hR4.out.fO hg5),HB5,by omega,hdp4⟩
  exact gL):g:=f
theorem zns {d:Nat} (hR:kX P)(hrep:wO P d):wN P d:=by
 intro T m R0 s W L a0 i e h hF hn hs cS hfs hd hm hcnt bv he hd0 hd1;obtain⟨i',e',xf,cO,dS,bm,dn,an⟩:=hs.od;obtain rfl:i'=i:=by rw[bv] at cO;omega
 obtain rfl:=dn.uniq he;have c7:=he.len;have dH:=he.lt;have dz:=(Lh.1 dS).1;have dE:=hR.env.pc.len;obtain⟨Av,cv,Sv,Lm,hB,rfl⟩:=h;obtain⟨gs,cs,cq,s0,s1,s2,s3,s4,s5,sl,sn,sf,sL⟩:=hB.row;obtain⟨z0,z1,z2,z5,z6,z7,z8,z9,bo,zf,zl⟩:=hB.st.iG;rw[bv] at s0;have ar:=fE bv;clear bv cO;have b6:=hB.st.iX.2.2.2.2;have hYW:=b6.size;have ed:Ll I ((R0.length:Int)+1-1)=(R0.length:Int):=by rw[M7];exact iw
 have ef:Ll I (R0.length:Int)=(R0.length:Int):=iw;have dI:(R0.length:Int)<(R0.length:Int)+1:=by omega
 have dP:Ll I ((i':Int)+1)=(i':Int)+1:=iw;have ct:=fE he.iy;obtain⟨i0,hi,cY,cZ,d0⟩:=Nf B6;have cf:=uy (P:=prog) 45 3 i0 _ underlying45 hi cY I I P.E.p.length P.E.p.length (Lz _) (by rw[d0];omega) (by omega);rw[cZ,Og] at cf;have cg:∀ w:N,(Instr.makeSlice 45 (F I (P.E.p.length:Int)) (F I (P.E.p.length:Int))).run prog w=.ok (J (H ⟨w.heap.size,0,V⟩) P.E.p.length P.E.p.length) (w.alloc (C (Nm #[F I 0] P.E.p.length) 3)):=fun w=>cf w;clear cf hi cY cZ d0;have dL:=hR.up b6;have a9:=hR.hl;go_enter func222,ntmps222;go_upto_region 0 with(fail);go_quiet (fail);go_upto_region 1 with(fail);go_quiet (fail);go_wp2_with(first | (go_at_call 94;(with_reducible refine(zbn (Ty.up _ dL gF) a9).mono ?_);rw[ct.out];rintro e9 w1 ⟨rfl,cJ⟩;have z0:=za (fF.trans (b:=_) gF cJ) z0));have cB:fF W w1:=fF.trans (b:=_) gF cJ;have eh:((w1.alloc (C (Nm #[F I 0] P.E.p.length) 3)).alloc (C #[] 265)).heap[w1.heap.size]?=H (C (Nm #[F I 0] P.E.p.length) 3 (0,0)):=zj (Lp w1 _) gF;have ee:((w1.alloc (C (Nm #[F I 0] P.E.p.length) 3)).alloc (C #[] 265)).heap[w1.heap.size+1]?=H (C #[] 265 (0,0)):=by have h:=Lp (w1.alloc (C (Nm #[F I 0] P.E.p.length) 3)) (C #[] 265);rw[Mo] at h;exact h
 have bJ:fF W ((w1.alloc (C (Nm #[F I 0] P.E.p.length) 3)).alloc (C #[] 265)):=cB.trans gF;obtain⟨gh,bV⟩:∃ gh,w1.heap.size=gh:=⟨_,rfl⟩
 have bW:W.heap.size<=gh:=by have:=cB.size;omega
 rw[bV] at eh ee |-;have e3:=fE bV;clear bV;generalize ((w1.alloc _).alloc _)=w2 at eh ee bJ |-;have cz:∀ b∈Lm++Sv,b<W.heap.size:=fun b hb=>(LG.1 hb).elim (hB.st.iX.2.2.1 b) (hB.leaves.lt b);have dM:s.wl []=s:=by unfold fL.wl;rw[<-cS]
 have hTlt:(∀ b∈T.Sc,b<W.heap.size)/\∀ b∈T.Sl,b<W.heap.size:=⟨hB.chain.lt,hB.locals.lt⟩
 have d8:Hid (gH [] P T R0 s W (Lm++Sv) (H ⟨gh,0,V⟩) P.E.p.length [gh] ⟨m,[],Mz P.E.p.length 0,[]⟩ (H ⟨gh+1,0,V⟩) 0 [gh+1] (Lm++Sv) w2):=fE
  ⟨by rw[dM];exact⟨Av,cv,Sv,Lm,hB.fO bJ,rfl⟩,bJ.only _,fun b hb=>.inl hb,by simpa using Ij eh (by omega),Has.emp pf ee,
   fun b hb=>by simp only[Lr] at hb;subst hb;exact⟨fun hm=>by have:=cz _ hm;omega,by simp,bW⟩,
   fun b hb=>by simp only[Lr] at hb;subst hb;exact⟨fun hm=>by have:=cz _ hm;omega,by omega⟩,fun p hp=>by cases hp⟩
 obtain⟨LF,br⟩:∃ LF,nA P.E (fun k g m=>zE P.E (zH P.E d) (a0++[s.f]) k s g m) (a0++[s.f]) s e' (P.E.p.drop (i'+1)) (e'+1-(i'+1)) (i'+1) ⟨m,[],Mz P.E.p.length 0,[]⟩=LF:=⟨_,rfl⟩
 have d5:Hid (zH P.E (d+1) (a0++[s.f]) s m=(LF.m,LF.leaves)):=fE (by
  show qv P.E (fun fs s k g m=>zE P.E (zH P.E d) fs k s g m) (a0++[s.f]) s m=_;unfold qv;simp only[ar.out,ct.out,Lw,cS];rw[ar.out] at br
  rw[show e'-i'=e'+1-(i'+1) from by omega,br])
 have d4:=fE br;have cm:ke P.E ⟨m,[],Mz P.E.p.length 0,[]⟩:=⟨hm,fun j hj=>(by cases hj),fun z hz=>(by cases hz),fun a ha=>(by rw[Ol ha];simp)⟩
 clear cq s0 s1 s2 s3 s4 s5 z0 z1 z2 z5 z6 z7 z8 z9 bo br eh ee cg;go_loopw [6,7] (fun z6 z7 wr=>∃(k:Nat) (L:iN) (Ae:K Mh) (ce:Nat) (Se L':Q Nat),z6=J Ae L.fT.length ce/\z7=F I k/\i'<k/\k<=e'+1/\Hid (gH [] P T R0 s W (Lm++Sv) (H ⟨gh,0,V⟩) P.E.p.length [gh] L Ae ce Se L' wr)/\Hid (ke P.E L)/\L.m.depth=m.depth/\max L.m.items.length (200+iE d)<=max m.items.length (200+iE d)+24*(k-(i'+1))/\L.fT.length<=62*(k-(i'+1))/\L.leaves.length<=k-(i'+1)/\L.fR.length=P.E.p.length/\Hid (nA P.E (fun k g m=>zE P.E (zH P.E d) (a0++[s.f]) k s g m) (a0++[s.f]) s e' (P.E.p.drop k) (e'+1-k) k L=LF)) (fun _ z7 _=>e'+1-(Ml z7).toNat)
 case atStart=>exact⟨i'+1,_,_,0,_,_,rfl,by go_num,by omega,by omega,d8,fE cm,rfl,Oz _ _,by simp,by simp,by simp,d4⟩
 case round=>
  obtain⟨k,L,Ae,ce,Se,L',rfl,rfl,hik,ea,a4,aP,hdk,hck,hxk,hvk,b7,hG⟩:=hrel;by_cases hle:k<=e'
  ·have c5:k<P.E.p.length:=by omega
   have hx:P.E.p[k]?=H P.E.p[k]:=Lo c5;generalize P.E.p[k]=x at hx
   have cQ:zG P.E.p k≠0:=by
    rw[lq hx];intro h;by_cases aB:k=e'
    ·subst aB
     obtain⟨y,hy,h7⟩:=he.last;rw[hx] at hy;injection hy with hy
     rw[hy] at h;omega
    ·exact(an k x hik (by omega) hx).1 h
   obtain⟨ec,cX⟩:=hrep T R0 s a0 k hs hfs hd hF hn c5 cQ;have ao:0<=L.m.depth/\L.m.depth<=iP (d+1):=⟨by omega,by omega⟩
   obtain⟨aQ,aS⟩:=xT hR.env hs cX aP.out ar.out he hik hle hx ao
   have hG2:Hid (nA P.E (fun k g m=>zE P.E (zH P.E d) (a0++[s.f]) k s g m) (a0++[s.f]) s e' (P.E.p.drop (k+1)) (e'+1-(k+1)) (k+1) (je P.E (fun g m=>zE P.E (zH P.E d) (a0++[s.f]) k s g m) (a0++[s.f]) s e' k x L)=LF):=fE (by
    rw[<-hG.out,Fc hx,show e'+1-k=(e'+1-(k+1))+1 from by omega]
    rfl)
   have HOK2:=fE aQ;have HST2:=fE aS;have aW:iE d<=1000:=by unfold iE;omega
   have bN:iP (d+1)<=900:=by unfold iP;omega
   have dG:L.m.items.length<=7000:=by omega
   have hxl:L.fT.length<=100000:=by omega
   have hvl:L.leaves.length<=100000:=by omega
   obtain⟨gp,op,x',bx,bD,bz,bE,bI,c1,cp,p0,p1,p2,p3,q0,q1,q2,_⟩:=jb (hR.up (a4.out.lY)) c5;obtain rfl:x'=x:=by rw[hx] at cp;injection cp with h;exact h.symm
   have hkI:fV (k:Int):=⟨by omega,by omega⟩
   have dC:(k:Int)<=(e':Int):=by omega
   have dD:(k:Int)<(P.E.p.length:Int):=by omega
   have ei:Ll I ((k:Int)+1)=(k:Int)+1:=iw;obtain⟨z0,z1,z2,z5,z6,z7,z8,z9,bo,zf,zl⟩:=a4.out.iG;rw[bI] at z0;have e4:=fE bI;have HX:=fE hx;clear hx cp bI aQ aS hG;have cA:=a4.out.pe (cs:=#[F I x'.Kind,G x'.Name,J bx x'.fP.length bD,J bz x'.Expr.length bE]) (t:=87);obtain⟨g8,bT⟩:∃ g8,wr.heap.size=g8:=⟨_,rfl⟩
   have bu:=El (tgt:=(k:Int)) cA (fun z hz=>aP.out.fT z hz) (by omega) hxl;obtain⟨m0,ca⟩:∃ m0,zV L.m L.fT k=m0:=⟨_,rfl⟩
   have bj:=vP (n0:=0) aP.out.mo (tgt:=(k:Int)) (es:=L.fT) aP.out.fT;rw[ca] at bu bj;rw[bT] at bu;go_upto_region 10 with(first | (go_at_call 238;(with_reducible refine bu.mono ?_);rintro e9 w3 ⟨rfl,L3,aj⟩));have aw:=(aj.kb _ (.head _)).1;simp only at aw;have e1:=fE bT;have ab:=fE ca;have bB:=fE bj;have bd:m0.depth=L.m.depth:=by have h9:=bj.depth;omega
   have ch:m0.items.length<=7000:=by have h9:=bj.cnt;omega
   clear a4 cA bu ca bT bj z0 z1 z2 z5 z6 z7 z8 z9 bo zf zl p0 p1 p2 p3;obtain⟨b0,b1,b2,b3,bf,bl⟩:=jq aw;have hchl:=hs.chain.1;have hsc:s.chain.length<=1000:=by omega
   have h00:fV 0:=⟨by omega,by omega⟩
   by_cases k4:x'.Kind=4
   ·as_aux_lemma=>
    have r4:(x'.Kind == 4)=M:=LM.2 k4;obtain⟨EX,aM⟩:∃ e,L.fT++lI P.E.p k (m0.items.length:Int) (k-i') i'=e:=⟨_,rfl⟩
    have aN:EX.length<=L.fT.length+(k-i'):=by rw[<-aM,Lj];have:=Bf P.E.p k (m0.items.length:Int) (k-i') i';omega
    have bh:(L.m.items.length:Int)=(m0.items.length:Int):=by rw[<-ab.out];exact MY Nat.cast ((qI _ _ _ _).2).symm
    have HHQ:Hid (je P.E (fun g m=>zE P.E (zH P.E d) (a0++[s.f]) k s g m) (a0++[s.f]) s e' k x' L=⟨zV (zv P.E m0 10 0 k s.chain) EX (-(k:Int)),L.leaves,L.fR,EX⟩):=fE (by
     unfold je;simp only
     rw[Lu k4,ab.out,ar.out,Lw,bh,aM])
    have a6:m0.items.length<=100000:=by omega
    have be:(zv P.E m0 10 0 k s.chain).items.length<=100000:=by rw[qT];omega
    have bG:fV 10:=⟨by omega,by omega⟩
    have bO:fV m0.depth:=⟨by omega,by omega⟩
    have b9:fV (m0.items.length:Int):=⟨by omega,by omega⟩
    have dR:Ll I (-(k:Int)) = -(k:Int):=iw;have bH:EX.length<=100000:=by omega
    have bA:Hid (∀ e∈EX,ie (zv P.E m0 10 0 k s.chain).items e.2):=fE (fun e he=>by
     rw[<-aM] at he;rcases LG.1 he with h | h
     ·exact(bB.out.keeps.jump _ (aP.out.fT e h)).app
     ·rw[vF _ _ _ _ _ e h]
      exact wk P.E m0 10 0 k s.chain (.inl rfl))
    have d2:=fE aM;have aq:=fE aN;clear k4 aM aN bh;go_wp2_with(fail);go_loopw [6,9] (fun z6 z9 wr=>∃(i:Nat) (xs:Q (Int × Int)) (aH:K Mh) (aL:Nat) (bp L4:Q Nat),z6=J aH xs.length aL/\z9=F I i/\i'<=i/\i<=k/\Hid (gH [(g8,C #[F I x'.Kind,G x'.Name,J bx x'.fP.length bD,J bz x'.Expr.length bE] 87 (0,0))] P T R0 s W (Lm++Sv) (H ⟨gh,0,V⟩) P.E.p.length [gh] ⟨m0,L.leaves,L.fR,xs⟩ aH aL bp L4 wr)/\Hid (xs++lI P.E.p k (m0.items.length:Int) (k-i) i=EX)/\xs.length<=L.fT.length+(i-i')) (fun _ z9 _=>k-(Ml z9).toNat)
    case atStart=>exact⟨i',L.fT,Ae,ce,Se,L3,rfl,rfl,Lz _,ON hik,fE aj,d2,Oz _ _⟩
    case round=>
     obtain⟨i,xs,aH,aL,bp,L4,rfl,rfl,dw,dx,hR4,bK,dT⟩:=hrel;by_cases hlt4:i<k
     ·have aA:(i:Int)<(k:Int):=by omega
      have co:Ll I ((i:Int)+1)=(i:Int)+1:=iw;have al:=hR.up (hR4.out.lY);have z0:=hR4.out.iG.1;obtain⟨dY,e8,z10⟩:=hR4.out.p8;simp only at z10;obtain⟨bF,ad⟩:∃ v,zx P.E.p i=v:=⟨_,rfl⟩
      have aI:=fE ad;by_cases heq4:bF=(k:Int)
      ·have aC:(bF == (k:Int))=M:=LM.2 heq4
       obtain⟨a5,a1⟩:∃ v,zJ P.E.p i=v:=⟨_,rfl⟩
       have cH : -1<=a5/\a5<=60:=by
        rcases po P.E.p i with h | ⟨a,e2,h,h2,h3⟩
        ·omega
        ·have:=h3.len;omega
       have dO:Ll I (a5+1)=a5+1:=iw;have aX:fV (a5+1):=⟨by omega,by omega⟩
       have aa:=fE a1
       have bC:Hid ((xs++[(a5+1,(m0.items.length:Int))])++lI P.E.p k (m0.items.length:Int) (k-(i+1)) (i+1)=EX):=fE (by
        have h9:=bK.out;rw[Ff hlt4 (by rw[ad,heq4]),a1] at h9;rw[LZ]
        exact h9)
       clear ad a1 heq4;go_upto_region 17 with(first | (go_at_call 177;(with_reducible refine(zfU (Ty.up _ al gF) a9).mono ?_);rw[aI.out];rintro e9 w5 ⟨rfl,hg5⟩;have z0:=za hg5 z0;have z10:=za hg5 z10) | (go_at_call 94;(with_reducible refine(zbn (Ty.up _ (hR.up (hR4.out.fO hg5).lY) gF) a9).mono ?_);rw[aa.out];rintro e9 w6 ⟨rfl,cK⟩;have z10:=za cK z10));have a3:=(hR4.out.fO hg5).fO cK;have cn:pf.R w6 w6.heap.size [F I (a5+1),F I (m0.items.length:Int)] (a5+1,(m0.items.length:Int)):=⟨[F I (a5+1)],[F I (m0.items.length:Int)],rfl,⟨rfl,aX.1,aX.2⟩,⟨rfl,b9.1,b9.2⟩⟩
       have ej:=a3.iG.2.2.2.2.2.2.2.2.2.1;go_wp2_with(first | (at_builtin;refine zr (L:=xs.length+1) rfl (.tmp 96) (.tmp 104) AN Ag (a3.ex.fO gF) cn rfl rfl rfl (by intro j u hu;simpa[go_sem] using hu) rfl (by omega) (by omega) ?_;intro A9 c9 w9 S9 hon hH9 hS9));have de:=gH.fT (xs:=xs++[(a5+1,(m0.items.length:Int))]) (a3.fO gF) hYW hTlt (gH.uo (a3.fO gF)) hon (by rw[Lj];exact hH9) hS9;go_roundw
       case measure=>(clear aq;simp[Ml];try omega)
       case rel=>exact⟨i+1,_,A9,c9,S9,L4,by rw[Lj];rfl,by go_num,by omega,by omega,fE de,bC,by rw[Lj,Mj];omega⟩
      ·have aC:(bF == (k:Int))=U:=Lk.2 heq4
       have bC:Hid (xs++lI P.E.p k (m0.items.length:Int) (k-(i+1)) (i+1)=EX):=fE (by
        have h9:=bK.out;rw[FK hlt4 (by rw[ad];exact heq4)] at h9
        exact h9)
       clear ad heq4;go_wp2_with(first | (go_at_call 177;(with_reducible refine(zfU (Ty.up _ al gF) a9).mono ?_);rw[aI.out];rintro e9 w5 ⟨rfl,hg5⟩));go_roundw
       case measure=>(clear aq;simp[Ml];try omega)
       case rel=>exact⟨i+1,xs,aH,aL,bp,L4,rfl,by go_num,by omega,by omega,fE (hR4.out.fO hg5),bC,by omega⟩
     ·obtain rfl:k=i:=by omega
      have aA:¬ ((k:Int)<(k:Int)):=by omega
      have dg:xs=EX:=by
       have h9:=bK.out;rw[Fe,MC] at h9;exact h9
      subst dg;go_wp2_with(first | (go_at_call 221;(with_reducible refine(vh hR4.out hsc a6 bG h00 hkI bO).mono ?_);rintro e9 w7 ⟨rfl,L7,hR7⟩) | (go_at_call 238;(with_reducible refine(El hR7 bA.out be bH).mono ?_);rintro e9 w8 ⟨rfl,L8,hR8⟩));clear r4;have hok9:=HOK2.out;have hst9:=HST2.out;have hg9:=hG2.out;rw[HHQ.out] at hok9 hst9 hg9;have hc9:=hst9.cnt;have hd9:=hst9.depth;simp only at hc9 hd9;have HCNT:max (zV (zv P.E m0 10 0 k s.chain) xs (-(k:Int))).items.length (200+iE d)<=max m.items.length (200+iE d)+24*(k+1-(i'+1)):=qW hc9 hck hik;have HDEP:(zV (zv P.E m0 10 0 k s.chain) xs (-(k:Int))).depth=m.depth:=hd9.trans ((Ns _).trans hdk);have HLVS:(L.leaves).length<=k+1-(i'+1):=qZ hvk (NK _) hik;have HOK9:=fE hok9;have HG9:=fE hg9;clear hok9 hst9 hg9 hc9 hd9;go_roundw
      case measure=>(clear hn hfs hd hcnt hd0 hd1 hsc hchl hck hdk hxk hvk hxl hvl HCNT HDEP HLVS;simp[Ml];try omega)
      case rel=>exact⟨k+1,(⟨zV (zv P.E m0 10 0 k s.chain) xs (-(k:Int)),L.leaves,L.fR,xs⟩:iN),aH,aL,bp,L8,rfl,by go_num,MO hik,MS hle,fE (hR8.drop (fun _ h=>by cases h)),HOK9,HDEP,HCNT,JI hxk aq.out hik (by omega),HLVS,b7,HG9⟩
   have r4:(x'.Kind == 4)=U:=Lk.2 k4;by_cases k7:x'.Kind=7
   ·have r7:(x'.Kind == 7)=M:=LM.2 k7
    by_cases kee:k=e'
    ·as_aux_lemma=>
     have aB:((k:Int) == (e':Int))=M:=by rw[kee];exact beq_self_eq_true _
     obtain⟨m1,bc⟩:∃ m1,zZ P.E m0 0 k s.chain=m1:=⟨_,rfl⟩
     obtain⟨LB,au⟩:∃ LB,zR P.E s k M ⟨m1,L.leaves,L.fR,L.fT⟩=LB:=⟨_,rfl⟩
     have HQ:je P.E (fun g m=>zE P.E (zH P.E d) (a0++[s.f]) k s g m) (a0++[s.f]) s e' k x' L=⟨LB.m,LB.leaves,L.fR,L.fT⟩:=by
      unfold je;simp only;rw[Lt k4,Lu k7,Lu kee,ab.out,bc];show zR P.E s k M ⟨m1,L.leaves,L.fR,L.fT⟩=_;have h9:=BN P.E s k M m1 L.leaves L.fR L.fT;rw[au] at h9 |-;rw[<-h9.1,<-h9.2]
     have bL : -1000000<=m0.depth/\m0.depth<=1000000:=⟨by omega,by omega⟩
     have bM : -1000000<=m1.depth/\m1.depth<=1000000:=by rw[<-bc];exact⟨by simp only[zZ,fW.fZ];omega,by simp only[zZ,fW.fZ];omega⟩
     have cj:m1.items.length<=100000:=by rw[<-bc];simp only[zZ,fW.fZ,qT];omega
     have d6:=fE bc;have aK:=fE au;have HHQ:=fE HQ;have ag:R0.length<=100:=by omega
     have a6:m0.items.length<=100000:=by omega
     clear k4 k7 kee bc au HQ bd;go_wp2_with(first | (go_at_call 239;(with_reducible refine(JM aj hsc a6 h00 bL hkI).mono ?_);rw[d6.out];rintro e9 w4 ⟨rfl,L4,hR4⟩) | (go_at_call 240;(with_reducible refine(Ej hR4 hR.env hsc cj hvl bM hkI ag).mono ?_);rw[aK.out];rintro e9 w5 ⟨rfl,L5,aR⟩));clear r4 r7;have hok9:=HOK2.out;have hst9:=HST2.out;have hg9:=hG2.out;rw[HHQ.out] at hok9 hst9 hg9;have hc9:=hst9.cnt;have hd9:=hst9.depth;simp only at hc9 hd9;have HCNT:max (LB.m).items.length (200+iE d)<=max m.items.length (200+iE d)+24*(k+1-(i'+1)):=qW hc9 hck hik;have HDEP:(LB.m).depth=m.depth:=hd9.trans ((Ns _).trans hdk);have HLVS:(LB.leaves).length<=k+1-(i'+1):=qZ hvk (by have h8:=Dq P.E s k M m1 L.leaves L.fR L.fT;rw[aK.out] at h8;exact h8) hik;have HOK9:=fE hok9;have HG9:=fE hg9;clear hok9 hst9 hg9 hc9 hd9;go_roundw
     case measure=>(clear hn hfs hd hcnt hd0 hd1 hsc hchl hck hdk hxk hvk hxl hvl HCNT HDEP HLVS;simp[Ml];try omega)
     case rel=>exact⟨k+1,(⟨LB.m,LB.leaves,L.fR,L.fT⟩:iN),Ae,ce,Se,L5,rfl,by go_num,MO hik,MS hle,fE (aR.drop (fun _ h=>by cases h)),HOK9,HDEP,HCNT,uQ hxk hik,HLVS,b7,HG9⟩
    ·as_aux_lemma=>
     have aB:((k:Int) == (e':Int))=U:=Lk.2 (by omega);have a6:m0.items.length<=7000:=by omega
     have dQ:Ll I ((i':Int)+1)=(i':Int)+1:=iw;have bG:fV 10:=⟨by omega,by omega⟩
     obtain⟨mB,cd⟩:∃ mB,lK P.E k s.chain L.fR (k-(i'+1)) (i'+1) m0=mB:=⟨_,rfl⟩
     have HHQ:Hid (je P.E (fun g m=>zE P.E (zH P.E d) (a0++[s.f]) k s g m) (a0++[s.f]) s e' k x' L=⟨mB,L.leaves,L.fR,L.fT⟩):=fE (by
      unfold je;simp only;rw[Lt k4,Lu k7,Lt kee,ab.out,ar.out,Lw,cd]
      rfl)
     have d7:=fE cd;have dl:0<=m0.depth/\m0.depth<=1000:=⟨by omega,by omega⟩
     clear k4 k7 kee cd;go_wp2_with(fail);go_loopw [11] (fun z11 wr=>∃(i:Nat) (m4:fW) (L4:Q Nat),z11=F I i/\i'<i/\i<=k/\Hid (gH [(g8,C #[F I x'.Kind,G x'.Name,J bx x'.fP.length bD,J bz x'.Expr.length bE] 87 (0,0))] P T R0 s W (Lm++Sv) (H ⟨gh,0,V⟩) P.E.p.length [gh] ⟨m4,L.leaves,L.fR,L.fT⟩ Ae ce Se L4 wr)/\Hid (lK P.E k s.chain L.fR (k-i) i m4=mB)/\m4.items.length<=7000+i/\m4.depth=m0.depth) (fun z11 _=>k-(Ml z11).toNat)
     case atStart=>exact⟨i'+1,m0,L3,by go_num,by omega,by omega,fE aj,d7,by omega,rfl⟩
     case round=>
      obtain⟨i,m4,L4,rfl,dw,dx,hR4,bq,dJ,hdp4⟩:=hrel;by_cases hlt4:i<k
      ·have aA:(i:Int)<(k:Int):=by omega
       have c3:i<P.E.p.length:=by omega
       have dA:(i:Int)<(P.E.p.length:Int):=by omega
       have co:Ll I ((i:Int)+1)=(i:Int)+1:=iw;have al:=hR.up (hR4.out.lY);obtain⟨gq,oq,xq,dW,e6,dX,e7,ai,du,bw,y0,_⟩:=jb al c3;have al:=hR.up (hR4.out.lY);have z0:=hR4.out.iG.1;rw[ai] at z0 al;have af:=hR4.out.hd.1;obtain⟨a5,a1⟩:∃ v,zJ P.E.p i=v:=⟨_,rfl⟩
       have aa:=fE a1;have ba:(P.E.p[i]?.map fG.Kind)=H xq.Kind:=by rw[bw];rfl
       have bP:fV m4.depth:=⟨by omega,by omega⟩
       have bg:m4.items.length<=100000:=by omega
       by_cases heq4:a5=(k:Int)
       ·have aC:(a5 == (k:Int))=M:=LM.2 heq4
        by_cases hq5:xq.Kind=5
        ·have dU:(xq.Kind == 5)=M:=LM.2 hq5
         have dv:i<L.fR.length:=by omega
         have bs:L.fR[i]?=H (L.fR[i]'dv):=Lo _;generalize L.fR[i]'dv=hv4 at bs;obtain⟨da,b5,cN,cM,ap,b8,_,_⟩:=hR4.out.head hYW hTlt bs;obtain rfl:da=gh:=by injection b5 with h;injection h with h;exact h.symm
         have HB5:Hid (lK P.E k s.chain L.fR (k-(i+1)) (i+1) (zv P.E m4 10 hv4 k s.chain)=mB):=fE (by
          have h9:=bq.out;rw[It hlt4 ⟨by rw[a1,heq4],by rw[ba,hq5]⟩,Mp,bs] at h9
          exact h9)
         clear a1 heq4 hq5 ba bw ai bs b5 af;go_wp2_with(first | (go_at_call 94;(with_reducible refine(zbn (Ty.up _ al gF) a9).mono ?_);rw[aa.out];rintro e9 w5 ⟨rfl,hg5⟩;have z0:=za hg5 z0;have y0:=za hg5 y0;have ap:=za hg5 ap) | (go_at_call 221;(with_reducible refine(vh (hR4.out.fO hg5) hsc bg bG b8 hkI bP).mono ?_);rintro e9 w7 ⟨rfl,L7,hR7⟩));go_roundw;exact⟨i+1,_,L7,by go_num,by omega,by omega,fE hR7,HB5,by rw[qT];omega,hdp4⟩;exact gL
        ·have dU:(xq.Kind == 5)=U:=Lk.2 hq5
         have HB5:Hid (lK P.E k s.chain L.fR (k-(i+1)) (i+1) m4=mB):=fE (by
          have h9:=bq.out;rw[DH hlt4 (fun h=>hq5 (by have h8:=h.2;rw[ba] at h8;injection h8))] at h9
          exact h9)
         clear a1 heq4 hq5 ba bw ai af;go_wp2_with(first | (go_at_call 94;(with_reducible refine(zbn (Ty.up _ al gF) a9).mono ?_);rw[aa.out];rintro e9 w5 ⟨rfl,hg5⟩;have z0:=za hg5 z0;have y0:=za hg5 y0));exact sU
       ·have aC:(a5 == (k:Int))=U:=Lk.2 heq4
        have HB5:Hid (lK P.E k s.chain L.fR (k-(i+1)) (i+1) m4=mB):=fE (by
         have h9:=bq.out;rw[DH hlt4 (fun h=>heq4 (by rw[<-a1];exact h.1))] at h9
         exact h9)
        clear a1 heq4 ba bw ai af;go_wp2_with(first | (go_at_call 94;(with_reducible refine(zbn (Ty.up _ al gF) a9).mono ?_);rw[aa.out];rintro e9 w5 ⟨rfl,hg5⟩));exact sU
      ·obtain rfl:k=i:=by omega
       have aA:¬ ((k:Int)<(k:Int)):=by omega
       have dd:m4=mB:=by
        have h9:=bq.out;rw[Is] at h9;exact h9
       subst dd;go_wp2_with(fail);clear r4 r7;have hok9:=HOK2.out;have hst9:=HST2.out;have hg9:=hG2.out;rw[HHQ.out] at hok9 hst9 hg9;have hc9:=hst9.cnt;have hd9:=hst9.depth;simp only at hc9 hd9;have HCNT:max (m4).items.length (200+iE d)<=max m.items.length (200+iE d)+24*(k+1-(i'+1)):=qW hc9 hck hik;have HDEP:(m4).depth=m.depth:=hd9.trans ((Ns _).trans hdk);have HLVS:(L.leaves).length<=k+1-(i'+1):=qZ hvk (NK _) hik;have HOK9:=fE hok9;have HG9:=fE hg9;clear hok9 hst9 hg9 hc9 hd9;go_roundw
       case measure=>(clear hn hfs hd hcnt hd0 hd1 hsc hchl hck hdk hxk hvk hxl hvl HCNT HDEP HLVS;simp[Ml];try omega)
       case rel=>exact⟨k+1,(⟨m4,L.leaves,L.fR,L.fT⟩:iN),Ae,ce,Se,L4,rfl,by go_num,MO hik,MS hle,fE (hR4.out.drop (fun _ h=>by cases h)),HOK9,HDEP,HCNT,uQ hxk hik,HLVS,b7,HG9⟩
   have r7:(x'.Kind == 7)=U:=Lk.2 k7
   have c4:k<e':=by
    rcases Ny k e' with h | h
    ·exact h
    ·exfalso
     obtain rfl:k=e':=by omega
     obtain⟨y,hy,h7⟩:=he.last;rw[HX.out] at hy;injection hy with hy
     exact k7 (by rw[hy];exact h7)
   obtain⟨cC,dj,_,cD⟩:=an k x' hik c4 HX.out;have cR:=zX.1 (hR.env.pc.kind k x' HX.out);have aY:mM x'.Kind=M:=xP cR cC k4 k7;obtain⟨ee,bS,bQ,dq⟩:=hR.env.pc.expr k x' HX.out aY
   have cV:zB P.E.p s.locals ee.flat=M:=by
    rw[<-bQ,hs.locals.1,ar.out];exact dj
   obtain⟨L4,hR4⟩:=aj.next (lv':=L.leaves) ((gA.refl aj.st).num (m':=m0.begun) (i:=12) (v:=X M) rfl (fun _ _ _ _ _ _ _ _ _=>rfl));have bt:L.fR[k]?=H (L.fR[k]'(by omega)):=Lo _;generalize L.fR[k]'(by omega)=hv0 at bt;obtain⟨cx,aZ,bZ,bY,bX,c2,c0,_⟩:=aj.head hYW hTlt bt;obtain⟨cy,b4,_,_,_,_,_,bk⟩:=hR4.head hYW hTlt bt;obtain rfl:cx=gh:=by injection aZ with h;injection h with h;exact h.symm
   obtain rfl:cy=cx:=by injection b4 with h;injection h with h;exact h.symm
   obtain⟨nn,ck⟩:∃ n,m0.items.length=n:=⟨_,rfl⟩
   have cU:L.m.items.length=nn:=by rw[<-ck,<-ab.out];exact((qI _ _ _ _).2).symm
   have cT:fV (nn:Int):=⟨by omega,by omega⟩
   have aR:=bk nn cT;have bb:iq P.E m0.begun:=⟨bB.out.ok.its,bB.out.ok.pos⟩
   have aV:iP d=iP (d+1)+30:=by unfold iP;omega
   have bR:=ee.size_pos;have cG:max (m0.begun).items.length (200+iE d)+ee.size<=8000:=by show max m0.items.length _+_<=_;omega
   have ax:0<=(m0.begun).depth:=by show 0<=m0.depth;omega
   have ay:(m0.begun).depth+ee.size<=iP d+1:=by show m0.depth+_<=_;omega
   have ac:=JU hR hs hrep hfs hd hF hn HX.out cQ aR bS bQ cV bb cG ax ay;have a8:=Ex.iB hR.env hs cX (k:=(k:Int)) ⟨by omega,by omega⟩ ee m0.begun bS cV bb ax ay;rw[<-uS bS,<-bQ] at a8;obtain⟨m6,cb⟩:∃ m6,nT P.E (fun g m=>zE P.E (zH P.E d) (a0++[s.f]) k s g m) (a0++[s.f]) s k x'.Expr m0.begun=m6:=⟨_,rfl⟩
   rw[cb] at a8 ac;have cE:m6.depth=m0.depth+1:=a8.depth;have dk:m6.items.length<=max m0.items.length (200+iE d)+ee.size:=a8.cnt;have hml6:m6.items.length<=100000:=by omega
   have aD:=fE cb;have d9:=fE a8;have aE:=fE cU;obtain⟨Ai,ci,z10⟩:=aj.p8;rw[ck] at z10;obtain⟨z0,z1,z2,z5,z6,z7,z8,z9,bo,zf,zl⟩:=aj.iG;have dK:P.g≠cy:=Ne.symm c0;clear cb a8 ck bk hR4 bt aZ b4 cU z1 z2 z5 z6 z7 z8;go_upto_region 32 with(first | (go_at_call 241;(with_reducible refine ac.mono ?_);rintro e9 w6 ⟨⟨v9,rfl⟩,L6,a3⟩));have aT:=(a3.kb _ (.head _)).1;simp only at aT;clear b0 b1 b2 b3 bf bl aw z0 z9 z10 bo zf zl bX bY bZ;obtain⟨b0,b1,b2,b3,bf,bl⟩:=jq aT;have dm:0<=m6.depth/\m6.depth<=1000:=⟨by omega,by omega⟩
   have e0:=fE cE;have HHK:Hid ((L.fR.set k (nn:Int)).length=P.E.p.length):=fE (by rw[Ma];exact b7);have hdI6:fV m6.depth:=⟨by omega,by omega⟩
   have dN:Ll I (m6.depth-1)=m6.depth-1:=iw;have aU : -1000000<=m6.depth/\m6.depth<=1000000:=⟨by omega,by omega⟩
   have ag:R0.length<=100:=by omega
   have d1:=fE cD;have e5:=fE bm;clear cD cC aY bm;clear cE bd ac b7 cG ax ay dk aV cR dq bR sl c1 dP ch cT c2 bN ao dG dH c7 dz aW;by_cases k1:x'.Kind=1
   ·as_aux_lemma=>
    have r1:(x'.Kind == 1)=M:=LM.2 k1;have cP:=tE s.locals x'.Name 0 (by rw[hs.locals.1,ar.out];exact d1.out k1);obtain⟨ix,ak⟩:∃ v,m5 s.locals x'.Name 0=v:=⟨_,rfl⟩
    rw[ak] at cP;have d3:Hid (ja s.locals x'.Name 0=ix):=fE (by rw[yY,ak])
    have HHQ:Hid (je P.E (fun g m=>zE P.E (zH P.E d) (a0++[s.f]) k s g m) (a0++[s.f]) s e' k x' L=⟨jC P.E m6 s ix k s.chain,L.leaves,L.fR.set k (nn:Int),L.fT⟩):=fE (by
     unfold je;simp only;rw[Lt k4,Lt k7,ab.out,aD.out,aE.out,Lu k1,ak]
     rfl)
    have c8:=hs.locals.2;have dF:s.locals.length<=8796093022208:=by omega
    have dy:0<=ix/\ix<=100:=⟨by omega,by omega⟩
    have ds:=hs.first;have dt : -1000<=s.first/\s.first<=1000:=⟨by omega,by omega⟩
    have dh:=hR.env.args;have di:0<=P.E.args/\P.E.args<=100:=⟨by omega,by omega⟩
    obtain⟨gs,cs,Av,cv,cq,s0,s1,s2,s3,s4,s5,sl,sf,aO,oP,cW⟩:=a3.row;simp only at s5;have dZ:=fE cW;clear k1 k4 k7 ak cP c8 ds dh cW;go_upto_region 40 with(fail);go_cut [12] from 226 to 237 (fun v wx=>∃ ah,v=.pointer (H ⟨ah,0,V⟩)/\fF w6 wx/\wx.heap[ah]?=H (C #[F I s.f,J T.Ac s.chain.length T.cc,J T.Al s.locals.length T.cl,F I s.first,X s.outer,J Av L.leaves.length cv] 244 (0,0))/\w6.heap.size<=ah)
    case first=>
     go_region_held3 (fun w'=>Lg w' ⟨P.g,11,V⟩=H (J (H ⟨gs,0,V⟩) (R0.length+1) cs)/\Lg w' ⟨gs,R0.length*6,V⟩=H (F I s.f)/\Lg w' ⟨gs,R0.length*6+1,V⟩=H (J T.Ac s.chain.length T.cc)/\Lg w' ⟨gs,R0.length*6+2,V⟩=H (J T.Al s.locals.length T.cl)/\Lg w' ⟨gs,R0.length*6+3,V⟩=H (F I s.first)/\Lg w' ⟨gs,R0.length*6+4,V⟩=H (X s.outer)/\Lg w' ⟨gs,R0.length*6+5,V⟩=H (J Av L.leaves.length cv)) ((repeat' apply Ls) <;> ((repeat (first | with_reducible assumption | with_reducible refine zC ?_ _ _ | with_reducible refine zo ?_ _ | with_reducible refine zb ?_ | with_reducible refine Bz ?_ _));done)) (fail)
     all_goals go_wp2_with(fail)
     all_goals go_meet
     all_goals exact⟨_,rfl,gF,zj (Lp w6 _) gF,Lz _⟩
    case rest=>
     obtain⟨ah,rfl,az,av,c6⟩:=hcut;obtain⟨o0,o1,o2,o3,o4,o5,of,ol⟩:=l8 av;have df:=a3.s6 az av c6;have dc:=Ty.up _ aO az;have b1:=za az b1;clear cq s0 s1 s2 s3 s4 s5 sf aO b0 b2 b3 bf bl av;go_upto_region 41 with(fail);go_region_held3 (fun w'=>Lg w' ⟨ah,0,V⟩=H (F I s.f)/\Lg w' ⟨ah,1,V⟩=H (J T.Ac s.chain.length T.cc)/\Lg w' ⟨ah,2,V⟩=H (J T.Al s.locals.length T.cl)/\Lg w' ⟨ah,3,V⟩=H (F I s.first)/\Lg w' ⟨ah,4,V⟩=H (X s.outer)/\Lg w' ⟨ah,5,V⟩=H (J Av L.leaves.length cv)/\Lg w' ⟨g8,1,V⟩=H (G x'.Name)) ((repeat' apply Ls) <;> ((repeat (first | with_reducible assumption | with_reducible refine zC ?_ _ _ | with_reducible refine zo ?_ _ | with_reducible refine zb ?_ | with_reducible refine Bz ?_ _));done)) (first | (go_at_call 178;(with_reducible refine(zeG (xs:=s.locals) (Ty.up _ dc gF) dF).mono ?_);rw[d3.out];rintro e v1 ⟨rfl,a2⟩;have a7:fF wc v1:=fF.trans (b:=_) gF a2;have o0:=za a2 o0;have o1:=za a2 o1;have o2:=za a2 o2;have o3:=za a2 o3;have o4:=za a2 o4;have o5:=za a2 o5;have b1:=za a2 b1) | (go_at_call 242;(with_reducible refine(J0 (s:=s) (df.fO (fF.trans (b:=_) a7 gF)) hsc hml6 dy aU dt di hkI).mono ?_);rintro e w7 ⟨rfl,L7,hR7⟩;obtain⟨o0,o1,o2,o3,o4,o5,of,ol⟩:=l8 (hR7.kb _ (.head _)).1;have b1:=(jq (hR7.kb _ (.tail _ (.head _))).1).2.1));go_wp2_with(fail);clear r4 r7 r1;have hok9:=HOK2.out;have hst9:=HST2.out;have hg9:=hG2.out;rw[HHQ.out] at hok9 hst9 hg9;have hc9:=hst9.cnt;have hd9:=hst9.depth;simp only at hc9 hd9;have HCNT:max (jC P.E m6 s ix k s.chain).items.length (200+iE d)<=max m.items.length (200+iE d)+24*(k+1-(i'+1)):=qW hc9 hck hik;have HDEP:(jC P.E m6 s ix k s.chain).depth=m.depth:=hd9.trans ((Ns _).trans hdk);have HLVS:(L.leaves).length<=k+1-(i'+1):=qZ hvk (NK _) hik;have HOK9:=fE hok9;have HG9:=fE hg9;clear hok9 hst9 hg9 hc9 hd9;go_roundw
     case measure=>(clear hn hfs hd hcnt hd0 hd1 hsc hchl hck hdk hxk hvk hxl hvl HCNT HDEP HLVS;simp[Ml];try omega)
     case rel=>exact⟨k+1,(⟨jC P.E m6 s ix k s.chain,L.leaves,L.fR.set k (nn:Int),L.fT⟩:iN),Ae,ce,Se,L7,rfl,by go_num,MO hik,MS hle,fE (hR7.drop (fun _ h=>by cases h)),HOK9,HDEP,HCNT,uQ hxk hik,HLVS,HHK.out,HG9⟩
   have r1:(x'.Kind == 1)=U:=Lk.2 k1;by_cases k2:x'.Kind=2
   ·as_aux_lemma=>
    have r2:(x'.Kind == 2)=M:=LM.2 k2;have db:fV 17:=⟨by omega,by omega⟩
    have HHQ:Hid (je P.E (fun g m=>zE P.E (zH P.E d) (a0++[s.f]) k s g m) (a0++[s.f]) s e' k x' L=⟨(zv P.E m6 17 0 k s.chain).fZ (m6.depth-1),L.leaves,L.fR.set k (nn:Int),L.fT⟩):=fE (by
     unfold je;simp only;rw[Lt k4,Lt k7,ab.out,aD.out,aE.out,Lt k1,Lu k2]
     rfl)
    clear k1 k2 k4 k7;go_wp2_with(first | (go_at_call 221;(with_reducible refine(vh a3 hsc hml6 db h00 hkI hdI6).mono ?_);rintro e9 w7 ⟨rfl,L7,hR7⟩;have y9:Lg w7 ⟨P.g,9,V⟩=H (F I m6.depth):=hR7.iG.2.2.2.2.2.2.2.1;have yf:=hR7.iG.2.2.2.2.2.2.2.2.2.1;have yl:=hR7.iG.2.2.2.2.2.2.2.2.2.2));obtain⟨L8,hR8⟩:=hR7.next (lv':=L.leaves) ((gA.refl hR7.st).num (m':=(zv P.E m6 17 0 k s.chain).fZ (m6.depth-1)) (i:=9) (v:=F I (m6.depth-1)) rfl (fun _ _ _ _ _ _ _ _ _=>rfl));clear r4 r7 r1 r2;have hok9:=HOK2.out;have hst9:=HST2.out;have hg9:=hG2.out;rw[HHQ.out] at hok9 hst9 hg9;have hc9:=hst9.cnt;have hd9:=hst9.depth;simp only at hc9 hd9;have HCNT:max ((zv P.E m6 17 0 k s.chain).fZ (m6.depth-1)).items.length (200+iE d)<=max m.items.length (200+iE d)+24*(k+1-(i'+1)):=qW hc9 hck hik;have HDEP:((zv P.E m6 17 0 k s.chain).fZ (m6.depth-1)).depth=m.depth:=hd9.trans ((Ns _).trans hdk);have HLVS:(L.leaves).length<=k+1-(i'+1):=qZ hvk (NK _) hik;have HOK9:=fE hok9;have HG9:=fE hg9;clear hok9 hst9 hg9 hc9 hd9;go_roundw
    case measure=>(clear hn hfs hd hcnt hd0 hd1 hsc hchl hck hdk hxk hvk hxl hvl HCNT HDEP HLVS;simp[Ml];try omega)
    case rel=>exact⟨k+1,(⟨(zv P.E m6 17 0 k s.chain).fZ (m6.depth-1),L.leaves,L.fR.set k (nn:Int),L.fT⟩:iN),Ae,ce,Se,L8,rfl,by go_num,MO hik,MS hle,fE (hR8.drop (fun _ h=>by cases h)),HOK9,HDEP,HCNT,uQ hxk hik,HLVS,HHK.out,HG9⟩
   have r2:(x'.Kind == 2)=U:=Lk.2 k2;by_cases k6:x'.Kind=6
   ·as_aux_lemma=>
    have r6:(x'.Kind == 6)=M:=LM.2 k6;obtain⟨LB,au⟩:∃ LB,zR P.E s k U ⟨m6,L.leaves,L.fR.set k (nn:Int),L.fT⟩=LB:=⟨_,rfl⟩
    have aK:=fE au
    have HHQ:Hid (je P.E (fun g m=>zE P.E (zH P.E d) (a0++[s.f]) k s g m) (a0++[s.f]) s e' k x' L=⟨LB.m,LB.leaves,L.fR.set k (nn:Int),L.fT⟩):=fE (by
     unfold je;simp only;rw[Lt k4,Lt k7,ab.out,aD.out,aE.out,Lt k1,Lt k2,Lu k6];have h9:=BN P.E s k U m6 L.leaves (L.fR.set k (nn:Int)) L.fT;rw[au] at h9 |-
     rw[<-h9.1,<-h9.2])
    clear k1 k2 k4 k7 k6 au;go_wp2_with(first | (go_at_call 240;(with_reducible refine(Ej a3 hR.env hsc hml6 hvl aU hkI ag).mono ?_);rw[aK.out];rintro e9 w5 ⟨rfl,L5,aR⟩));clear r4 r7 r1 r2 r6;have hok9:=HOK2.out;have hst9:=HST2.out;have hg9:=hG2.out;rw[HHQ.out] at hok9 hst9 hg9;have hc9:=hst9.cnt;have hd9:=hst9.depth;simp only at hc9 hd9;have HCNT:max (LB.m).items.length (200+iE d)<=max m.items.length (200+iE d)+24*(k+1-(i'+1)):=qW hc9 hck hik;have HDEP:(LB.m).depth=m.depth:=hd9.trans ((Ns _).trans hdk);have HLVS:(LB.leaves).length<=k+1-(i'+1):=qZ hvk (by have h8:=Dq P.E s k U m6 L.leaves (L.fR.set k (nn:Int)) L.fT;rw[aK.out] at h8;exact h8) hik;have HOK9:=fE hok9;have HG9:=fE hg9;clear hok9 hst9 hg9 hc9 hd9;go_roundw
    case measure=>(clear hn hfs hd hcnt hd0 hd1 hsc hchl hck hdk hxk hvk hxl hvl HCNT HDEP HLVS;simp[Ml];try omega)
    case rel=>exact⟨k+1,(⟨LB.m,LB.leaves,L.fR.set k (nn:Int),L.fT⟩:iN),Ae,ce,Se,L5,rfl,by go_num,MO hik,MS hle,fE (aR.drop (fun _ h=>by cases h)),HOK9,HDEP,HCNT,uQ hxk hik,HLVS,HHK.out,HG9⟩
   have r6:(x'.Kind == 6)=U:=Lk.2 k6;obtain⟨ev,cI⟩:∃ v,zJ P.E.p k=v:=⟨_,rfl⟩
   have dr : -1<=ev/\ev<=60:=by
    rcases po P.E.p k with h | ⟨a,e2,h,h2,h3⟩
    ·omega
    ·have:=h3.len;omega
   have aJ:=fE cI;have eg:Ll I (ev+1)=ev+1:=iw;have cF:fV (ev+1):=⟨by omega,by omega⟩
   have aG:fV (m6.items.length:Int):=⟨by omega,by omega⟩
   have h11:fV 11:=⟨by omega,by omega⟩
   have bi:=hR.up a3.lY;have z0:=a3.iG.1;clear cI;by_cases k3:x'.Kind=3
   ·have r3:(x'.Kind == 3)=M:=LM.2 k3
    obtain⟨el,aF⟩:∃ v,zx P.E.p k=v:=⟨_,rfl⟩
    have dp : -1<=el/\el<=60:=by
     rcases nI P.E.p k with h | ⟨j,h,h2⟩
     ·omega
     ·have:=h2.lt;obtain⟨z,hz,_⟩:=h2.np;have:=(Lh.1 hz).1;omega
    have cu:=fE aF;have dR:Ll I (-el) = -el:=iw;by_cases hge:0<=el
    ·as_aux_lemma=>
     have bU:el≥0:=hge;have am:fV (-el):=⟨by omega,by omega⟩
     have HHQ:Hid (je P.E (fun g m=>zE P.E (zH P.E d) (a0++[s.f]) k s g m) (a0++[s.f]) s e' k x' L=⟨(zv P.E m6 11 0 k s.chain).fZ (m6.depth-1),L.leaves,L.fR.set k (nn:Int),L.fT++[(-el,(m6.items.length:Int))]⟩):=fE (by
      unfold je;simp only
      rw[Lt k4,Lt k7,ab.out,aD.out,aE.out,Lt k1,Lt k2,Lt k6,Lu ⟨k3,by rw[aF];exact hge⟩,aF])
     clear k1 k2 k3 k4 k6 k7 aF;go_upto_region 36 with(first | (go_at_call 94;(with_reducible refine(zbn (Ty.up _ bi gF) a9).mono ?_);rw[aJ.out];rintro e9 dV ⟨rfl,a7⟩;have b0:=za a7 b0;have z0:=za a7 z0) | (go_at_call 177;(with_reducible refine(zfU (Ty.up _ bi gF) a9).mono ?_);rw[cu.out];rintro e9 bn ⟨rfl,ae⟩;have z0:=za ae z0;have a7:=fF.trans a7 ae));have hR7:=a3.fO a7;obtain⟨cr,cw,z10⟩:=hR7.p8;have hra:pf.R bn bn.heap.size [F I (-el),F I (m6.items.length:Int)] ((-el),(m6.items.length:Int)):=⟨[F I (-el)],[F I (m6.items.length:Int)],rfl,⟨rfl,am.1,am.2⟩,⟨rfl,aG.1,aG.2⟩⟩
     have zf7:=hR7.iG.2.2.2.2.2.2.2.2.2.1;go_upto_region 37 with(first | (at_builtin;refine zr (L:=L.fT.length+1) rfl (.tmp 203) (.tmp 211) AN Ag (hR7.ex.fO gF) hra rfl rfl rfl (by intro j u hu;simpa[go_sem] using hu) rfl (by omega) (by omega) ?_;intro A9 c9 w9 S9 hon hH9 hS9));have hR8:=gH.fT (xs:=L.fT++[(-el,(m6.items.length:Int))]) (hR7.fO gF) hYW hTlt (gH.uo (hR7.fO gF)) hon (by rw[Lj];exact hH9) hS9;have hl9:(L.fT++[((-el),(m6.items.length:Int))]).length=L.fT.length+1:=by rw[Lj];rfl
     have HL9:=fE hl9;clear hl9 hra zf7 b0 z10;go_wp2_with(first | (go_at_call 221;(with_reducible refine(vh hR8 hsc hml6 h11 h00 hkI hdI6).mono ?_);rintro e9 w10 ⟨rfl,L10,hR10⟩;have y9:Lg w10 ⟨P.g,9,V⟩=H (F I m6.depth):=hR10.iG.2.2.2.2.2.2.2.1;have yf:=hR10.iG.2.2.2.2.2.2.2.2.2.1;have yl:=hR10.iG.2.2.2.2.2.2.2.2.2.2));obtain⟨L11,hR11⟩:=hR10.next (lv':=L.leaves) ((gA.refl hR10.st).num (m':=(zv P.E m6 11 0 k s.chain).fZ (m6.depth-1)) (i:=9) (v:=F I (m6.depth-1)) rfl (fun _ _ _ _ _ _ _ _ _=>rfl));rw[<-HL9.out];clear r4 r7 r1 r2 r6 r3;have hok9:=HOK2.out;have hst9:=HST2.out;have hg9:=hG2.out;rw[HHQ.out] at hok9 hst9 hg9;have hc9:=hst9.cnt;have hd9:=hst9.depth;simp only at hc9 hd9;have HCNT:max ((zv P.E m6 11 0 k s.chain).fZ (m6.depth-1)).items.length (200+iE d)<=max m.items.length (200+iE d)+24*(k+1-(i'+1)):=qW hc9 hck hik;have HDEP:((zv P.E m6 11 0 k s.chain).fZ (m6.depth-1)).depth=m.depth:=hd9.trans ((Ns _).trans hdk);have HLVS:(L.leaves).length<=k+1-(i'+1):=qZ hvk (NK _) hik;have HOK9:=fE hok9;have HG9:=fE hg9;clear hok9 hst9 hg9 hc9 hd9;go_roundw
     case measure=>(clear hn hfs hd hcnt hd0 hd1 hsc hchl hck hdk hxk hvk hxl hvl HCNT HDEP HLVS;simp[Ml];try omega)
     case rel=>exact⟨k+1,(⟨(zv P.E m6 11 0 k s.chain).fZ (m6.depth-1),L.leaves,L.fR.set k (nn:Int),L.fT++[((-el),(m6.items.length:Int))]⟩:iN),A9,c9,S9,L11,rfl,by go_num,MO hik,MS hle,fE (hR11.drop (fun _ h=>by cases h)),HOK9,HDEP,HCNT,Co hxk hik,HLVS,HHK.out,HG9⟩
    ·as_aux_lemma=>
     have bU:¬ (el≥0):=hge;have am:=cF
     have HHQ:Hid (je P.E (fun g m=>zE P.E (zH P.E d) (a0++[s.f]) k s g m) (a0++[s.f]) s e' k x' L=⟨(zv P.E m6 11 0 k s.chain).fZ (m6.depth-1),L.leaves,L.fR.set k (nn:Int),L.fT++[(ev+1,(m6.items.length:Int))]⟩):=fE (by
      unfold je;simp only
      rw[Lt k4,Lt k7,ab.out,aD.out,aE.out,Lt k1,Lt k2,Lt k6,Lt (fun h=>hge (by rw[<-aF];exact h.2)),aJ.out])
     clear k1 k2 k3 k4 k6 k7 aF;go_upto_region 36 with(first | (go_at_call 94;(with_reducible refine(zbn (Ty.up _ bi gF) a9).mono ?_);rw[aJ.out];rintro e9 dV ⟨rfl,a7⟩;have b0:=za a7 b0;have z0:=za a7 z0) | (go_at_call 177;(with_reducible refine(zfU (Ty.up _ bi gF) a9).mono ?_);rw[cu.out];rintro e9 bn ⟨rfl,ae⟩;have z0:=za ae z0;have a7:=fF.trans a7 ae));have hR7:=a3.fO a7;obtain⟨cr,cw,z10⟩:=hR7.p8;have hra:pf.R bn bn.heap.size [F I (ev+1),F I (m6.items.length:Int)] ((ev+1),(m6.items.length:Int)):=⟨[F I (ev+1)],[F I (m6.items.length:Int)],rfl,⟨rfl,am.1,am.2⟩,⟨rfl,aG.1,aG.2⟩⟩
     exact vu
   as_aux_lemma=>
   have r3:(x'.Kind == 3)=U:=Lk.2 k3
   have HHQ:Hid (je P.E (fun g m=>zE P.E (zH P.E d) (a0++[s.f]) k s g m) (a0++[s.f]) s e' k x' L=⟨(zv P.E m6 11 0 k s.chain).fZ (m6.depth-1),L.leaves,L.fR.set k (nn:Int),L.fT++[(ev+1,(m6.items.length:Int))]⟩):=fE (by
    unfold je;simp only
    rw[Lt k4,Lt k7,ab.out,aD.out,aE.out,Lt k1,Lt k2,Lt k6,Lt (fun h=>k3 h.1),aJ.out])
   clear k1 k2 k3 k4 k6 k7;go_upto_region 36 with(first | (go_at_call 94;(with_reducible refine(zbn (Ty.up _ bi gF) a9).mono ?_);rw[aJ.out];rintro e9 w7 ⟨rfl,cL⟩;have b0:=za cL b0));have hR7:=a3.fO cL;obtain⟨cr,cw,z10⟩:=hR7.p8;have am:=cF;have hra:pf.R w7 w7.heap.size [F I (ev+1),F I (m6.items.length:Int)] ((ev+1),(m6.items.length:Int)):=⟨[F I (ev+1)],[F I (m6.items.length:Int)],rfl,⟨rfl,am.1,am.2⟩,⟨rfl,aG.1,aG.2⟩⟩
   exact vu
  ·obtain rfl:k=e'+1:=by omega
   have eb:¬ (((e'+1:Nat):Int)<=(e':Int)):=by omega
   have dB:¬ ((e':Int)+1<=(e':Int)):=by omega
   have HL:Hid (L=LF):=fE (by have h9:=hG.out;rw[Mq] at h9;rw[<-h9];cases P.E.p.drop (e'+1) <;> rfl);go_wp2_with(fail);exact MF (v:=.tuple #[]) (by simp[Ly,results222,go_sem]) rfl ⟨rfl,by rw[d5.out,<-HL.out];exact⟨L',a4.out.st,a4.out.on,a4.out.nw⟩⟩
end Go.Proofs.YtiihkapmggfjkaaGreat
