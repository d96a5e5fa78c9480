/-
  PART.
-/
import Derived.Test.YthgbglbaemelhaaGreatM16LawThreadsApart
set_option linter.unusedVariables false
set_option linter.unusedSimpArgs false
set_option maxRecDepth 100000
set_option maxHeartbeats 8000000
namespace Go.Proofs.YthgbglbaemelhaaGreat
open Value renaming slice->G,int->J,bool->H,string->V
open IntKind renaming i64->Z,wrap->Rg
open Option renaming none->C,some->D
open Obj renaming cells->F
open Bool renaming false->I,true->M
open Go renaming World->U,results->Rv,Addr->RJ,madeCells->SM,yielded->Th
open World renaming cell?->Rb,frozen?->Rx
open _root_.Int renaming toNat_natCast->Ry
open List renaming length_cons->RA,replicate->RN,length_singleton->R4
open RowKit renaming intOf->RS
open Region renaming wanted->RV,ready->Sn,noSelect->TZ,free->Wu
open Tryz
open Go.RowKit
variable {Ae Ah:X RJ}{B:Q (Nat × Obj)}{L' L0 Se Sh:Q Nat}{P:jt}{R0:Q (Q Value)}{T:iM}{W wr:U}{a b ce ch g i j k:Nat}{io fN:Q Int}{item:Int}{m:fT}{p:Q fw}{s:fH}
theorem J4 {α:Type} {xs:Q α} {x:α} (h:xs[k]?=D x):xs.drop k=x::xs.drop (k+1):=by
 obtain⟨h1,rfl⟩:=Rd.1 h;exact Rw h1
theorem tQ {c QX:Nat} (h1:a<=max b QX+24)(h2:max b QX<=max c QX+24*(k-(i+1)))(hi:i<k):max a QX<=max c QX+24*(k+1-(i+1)):=K9
theorem yr (h:a<=62*(k-(i+1)))(_hi:i<k):a<=62*(k+1-(i+1)):=K9
theorem tT (h:a<=k-(i+1))(h2:b<=a+1)(hi:i<k):b<=k+1-(i+1):=K9
theorem EC (E:fX)(s:fH)(k:Int)(last:Bool)(m:fT)(lv hd:Q Int)(ex:Q (Int × Int)):(kQ E s k last ⟨m,lv,hd,ex⟩).fN=hd/\(kQ E s k last ⟨m,lv,hd,ex⟩).fS=ex:=by
 unfold kQ;split
 ·split <;> exact⟨rfl,rfl⟩
 ·split <;> exact⟨rfl,rfl⟩
theorem Gb (E:fX)(s:fH)(k:Int)(last:Bool)(m:fT)(lv hd:Q Int)(ex:Q (Int × Int)):(kQ E s k last ⟨m,lv,hd,ex⟩).ut.length<=lv.length+1:=by
 unfold kQ;split
 ·split <;> simp[jk.wm]
 ·split <;> simp[jk.wm]
theorem gA.mK {L:jk} (h:gA B P T R0 s W L0 Ah ch Sh L Ae ce Se L' wr):fu P.Y wr:=by
 obtain⟨Av,cv,Sv,Lm,h1,_⟩:=h.st;exact h1.st.iX.2.2.2.2
theorem gA.ir {B:Q (Nat × Obj)}{P:jt}{T:iM}{R0:Q (Q Value)}{s:fH}{W:U}{L0:Q Nat}{Ah:X RJ}{ch:Nat}{Sh:Q Nat}{L:jk}{Ae:X RJ}{ce:Nat}{Se L':Q Nat}{wr:U}(h:gA B P T R0 s W L0 Ah ch Sh L Ae ce Se L' wr) :
  Rb wr ⟨P.g,0,C⟩=D (G P.A P.E.p.length P.c)/\Rb wr ⟨P.g,1,C⟩=D (J Z P.b.M2)/\Rb wr ⟨P.g,2,C⟩=D (J Z P.E.inl)/\Rb wr ⟨P.g,5,C⟩=D (H P.E.gY)/\Rb wr ⟨P.g,6,C⟩=D (J Z P.E.ww)/\Rb wr ⟨P.g,7,C⟩=D (J Z L.m.gO)/\Rb wr ⟨P.g,8,C⟩=D (J Z P.E.args)/\Rb wr ⟨P.g,9,C⟩=D (J Z L.m.jp)/\Rb wr ⟨P.g,12,C⟩=D (H L.m.start)/\(∀ j,Rx wr ⟨P.g,j,C⟩=I)/\P.g<wr.heap.size:=by
 obtain⟨Av,cv,Sv,Lm,h1,_⟩:=h.st;exact h1.st.ir
theorem gA.sU {B:Q (Nat × Obj)}{P:jt}{T:iM}{R0:Q (Q Value)}{s:fH}{W:U}{L0:Q Nat}{Ah:X RJ}{ch:Nat}{Sh:Q Nat}{L:jk}{Ae:X RJ}{ce:Nat}{Se L':Q Nat}{wr:U}(h:gA B P T R0 s W L0 Ah ch Sh L Ae ce Se L' wr):∃ Ai ci,Rb wr ⟨P.g,10,C⟩=D (G Ai L.m.pi.length ci):=by
 obtain⟨Av,cv,Sv,Lm,h1,_⟩:=h.st;exact h1.st.sU
theorem F1 {a:Q (Int × Int)} {x:Int × Int} (h:a.length<=62*(k-(i+1)))(hi:i<k):(a++[x]).length<=62*(k+1-(i+1)):=by
 rw[Rh,R4];omega
theorem OA (h:a<=62*(k-(i+1)))(hb:b<=a+(k-i))(hi:i<k)(hk:k<=60):b<=62*(k+1-(i+1)):=K9
theorem DY (p:Q fw)(k item:Int):∀(n i:Nat),(nR p k item n i).length<=n
 | 0,_=>Ru _
 | n+1,i=>by
  have:=DY p k item n (i+1);unfold nR;split
  ·rw[RA];omega
  ·omega
theorem J6 {k:Int} (h:i<j)(he:kh p i=k):nR p k item (j-i) i=(iP p i+1,item)::nR p k item (j-(i+1)) (i+1):=by
 rw[show j-i=j-(i+1)+1 from K9];show (if kh p i=k then _ else _)=_;rw[Rs he]
theorem Ky {k:Int} (h:i<j)(he:¬ kh p i=k):nR p k item (j-i) i=nR p k item (j-(i+1)) (i+1):=by
 rw[show j-i=j-(i+1)+1 from K9];show (if kh p i=k then _ else _)=_;rw[Ro he]
theorem J5 {k:Int}:nR p k item (i-i) i = []:=by rw[St];rfl
theorem MX {E:fX} {k:Int} (h:i<j)(he:iP E.p i=k/\(E.p[i]?.map fw.li)=D 5):nH E k io fN (j-i) i m=nH E k io fN (j-(i+1)) (i+1) (zI E m 10 (fN.getD i 0) k io):=by
 rw[show j-i=j-(i+1)+1 from K9];show nH E k io fN _ _ (if _ then _ else _)=_;rw[Rs he]
theorem G1 {E:fX} {k:Int} (h:i<j)(he:¬ (iP E.p i=k/\(E.p[i]?.map fw.li)=D 5)):nH E k io fN (j-i) i m=nH E k io fN (j-(i+1)) (i+1) m:=by
 rw[show j-i=j-(i+1)+1 from K9];show nH E k io fN _ _ (if _ then _ else _)=_;rw[Ro he]
theorem MW {E:fX} {k:Int}:nH E k io fN (i-i) i m=m:=by rw[St];rfl
theorem Ez {w:U} {p:RJ} {v:Value} (h:w.cell? p=D v)(n:Nat):(w.drewN n).cell? p=D v:=za ((fu.refl _).drewN n) h
theorem gA.BK {L:jk} {w2:U} {o:Obj} (h:gA B P T R0 s W L0 Ah ch Sh L Ae ce Se L' wr)(hg:fu wr w2)(hb:w2.heap[g]?=D o)(hl:wr.heap.size<=g):gA ((g,o)::B) P T R0 s W L0 Ah ch Sh L Ae ce Se L' w2:=by
 have h1:=h.fy hg;refine⟨h1.st,h1.on,h1.nw,h1.hd,h1.ex,h1.dh,h1.de,fun p hp=>?_⟩;rcases RO.1 hp with rfl | hp
 ·exact⟨hb,fun hm=>by have:=h.xL _ hm;simp only at this;omega,fun hm=>by have:=h.hd.lt _ hm;simp only at this;omega,fun hm=>by have:=h.ex.lt _ hm;simp only at this;omega⟩
 ·exact h1.kb p hp
theorem gA.row {B:Q (Nat × Obj)}{P:jt}{T:iM}{R0:Q (Q Value)}{s:fH}{W:U}{L0:Q Nat}{Ah:X RJ}{ch:Nat}{Sh:Q Nat}{L:jk}{Ae:X RJ}{ce:Nat}{Se L':Q Nat}{wr:U}(h:gA B P T R0 s W L0 Ah ch Sh L Ae ce Se L' wr):∃ gs cs Av cv,
  Rb wr ⟨P.g,11,C⟩=D (G (D ⟨gs,0,C⟩) (R0.length+1) cs)/\Rb wr ⟨gs,R0.length*6,C⟩=D (J Z s.f)/\Rb wr ⟨gs,R0.length*6+1,C⟩=D (G T.Ac s.io.length T.cc)/\Rb wr ⟨gs,R0.length*6+2,C⟩=D (G T.Al s.un.length T.cl)/\Rb wr ⟨gs,R0.length*6+3,C⟩=D (J Z s.first)/\Rb wr ⟨gs,R0.length*6+4,C⟩=D (H s.UV)/\Rb wr ⟨gs,R0.length*6+5,C⟩=D (G Av L.ut.length cv)/\gs<wr.heap.size/\(∀ j,Rx wr ⟨gs,j,C⟩=I)/\
  (iI.sl 9).R wr wr.heap.size [G T.Al s.un.length T.cl] s.un/\∃ o,wr.heap[P.g]?=D o:=by
 obtain⟨Av,cv,Sv,Lm,hB,_⟩:=h.st;obtain⟨gs,cs,a0,h0,h1,h2,h3,h4,h5,hl,_,hf,_⟩:=hB.row;obtain⟨Ai,ci,Si,As,a1,Ss,hM,_⟩:=id hB.st;exact⟨gs,cs,Av,cv,a0,h0,h1,h2,h3,h4,h5,hl,hf,hB.un.read,_,hM.box⟩
theorem EJ (w:U):∀ n,AC zr w (RN n (J Z 0)) (RN n 0) []
 | 0=>⟨rfl,rfl⟩
 | n+1=>by
  rw[List.replicate_succ,List.replicate_succ];exact⟨[J Z 0],RN n (J Z 0),[],[],rfl,rfl,⟨rfl,qo,qo,rfl⟩,EJ w n⟩
theorem LH (n:Nat):(SM #[J Z 0] n).toList=RN n (J Z 0):=by
 apply List.ext_getElem
 ·simp[SM]
 ·intro i h1 h2
  simp[SM,Nat.mod_one]
theorem NS {n:Nat} (hg:W.heap[g]?=D (F (SM #[J Z 0] n) 3 (0,0)))(hn:n<=9223372036854775807):Has (zr.sl 3) W [G (D ⟨g,0,C⟩) n n] (RN n 0) [g]:=by
 have h:=qi (T:=zr) (xs:=RN n (0:Int)) (S:=[]) hg (by rw[LH];exact EJ W n) (by rw[Sj];exact hn);rw[Sj] at h;exact⟨h,II⟩
theorem WV {g:Prop} (f:g:=by
  have zf7:=hR7.ir.2.2.2.2.2.2.2.2.2.1
  go_upto_region 37 with(first | (at_builtin;refine zD (L:=L.fS.length+1) rfl (.tmp 203) (.tmp 211) DL Dx (hR7.ex.fy gF) hra rfl rfl rfl (by intro j u hu;simpa[go_sem] using hu) rfl K9 K9 ?_;intro A9 c9 w9 S9 hon hH9 hS9))
  have hR8:=gA.fS (xs:=L.fS++[(ev+1,(m6.pi.length:Int))]) (hR7.fy gF) hYW hTlt (gA.xL (hR7.fy gF)) hon (by rw[Rh];exact hH9) hS9
  have hl9:(L.fS++[((ev+1),(m6.pi.length:Int))]).length=L.fS.length+1:=by rw[Rh];rfl
  have HL9:=fh hl9
  clear hl9 hra zf7 b0 z10
  go_wp2_with(first | (go_at_call 203;(with_reducible refine(yF hR8 hsc hml6 h11 h00 hkI hdI6).mono ?_);rintro e9 w10 ⟨rfl,L10,hR10⟩;have y9:Rb w10 ⟨P.g,9,C⟩=D (J Z m6.jp):=hR10.ir.2.2.2.2.2.2.2.1;have yf:=hR10.ir.2.2.2.2.2.2.2.2.2.1;have yl:=hR10.ir.2.2.2.2.2.2.2.2.2.2))
  obtain⟨L11,hR11⟩:=hR10.next (lv':=L.ut) ((gg.refl hR10.st).num (m':=(zI P.E m6 11 0 k s.io).gw (m6.jp-1)) (i:=9) (v:=J Z (m6.jp-1)) rfl (fun _ _ _ _ _ _ _ _ _=>rfl))
  rw[<-HL9.out]
  clear r4 r7 r1 r2 r6 r3
  have hok9:=HOK2.out
  have hst9:=HST2.out
  have hg9:=hG2.out
  rw[HHQ.out] at hok9 hst9 hg9
  have hc9:=hst9.cnt
  have hd9:=hst9.jp
  simp only at hc9 hd9
  have HCNT:max ((zI P.E m6 11 0 k s.io).gw (m6.jp-1)).pi.length (200+iQ d)<=max m.pi.length (200+iQ d)+24*(k+1-(i'+1)):=tQ hc9 hck hik
  have HDEP:((zI P.E m6 11 0 k s.io).gw (m6.jp-1)).jp=m.jp:=hd9.trans ((TF _).trans hdk)
  have HLVS:(L.ut).length<=k+1-(i'+1):=tT hvk (UO _) hik
  have HOK9:=fh hok9
  have HG9:=fh hg9
  clear hok9 hst9 hg9 hc9 hd9
  go_roundw
  case measure=>(clear hn hfs hd hcnt hd0 hd1 hsc hchl hck hdk hxk hvk hxl hvl HCNT HDEP HLVS;simp[RS];try omega)
  case rel=>exact⟨k+1,(⟨(zI P.E m6 11 0 k s.io).gw (m6.jp-1),L.ut,L.fN.set k (nn:Int),L.fS++[((ev+1),(m6.pi.length:Int))]⟩:jk),A9,c9,S9,L11,rfl,Ar,Tx hik,TD hle,fh (hR11.drop (fun _ h=>by cases h)),HOK9,HDEP,HCNT,F1 hxk hik,HLVS,HHK.out,HG9⟩):g:=f
theorem zpp {d:Nat} (hR:qA P)(hrep:Bz P d):By P d:=by
 intro T m R0 s W L a0 i e h hF hn hs cX hfs hd hm hcnt bA he hd0 hd1;obtain⟨i',e',xf,cT,dX,bq,dt,ap⟩:=hs.rh;obtain rfl:i'=i:=by rw[bA] at cT;omega
 obtain rfl:=dt.WD he;have cf:=he.len;have dM:=he.lt;have dE:=(Rd.1 dX).1;have dJ:=hR.env.pc.len;obtain⟨Av,cv,Sv,Lm,hB,rfl⟩:=h;obtain⟨gs,cs,cx,s0,s1,s2,s3,s4,s5,sl,sn,sf,sL⟩:=hB.row;obtain⟨z0,z1,z2,z5,z6,z7,z8,z9,bs,zf,zl⟩:=hB.st.ir;rw[bA] at s0;have av:=fh bA;clear bA cT;have ba:=hB.st.iX.2.2.2.2;have hYW:=ba.size;have ek:Rg Z ((R0.length:Int)+1-1)=(R0.length:Int):=by rw[TB];exact iw
 have em:Rg Z (R0.length:Int)=(R0.length:Int):=iw;have dN:(R0.length:Int)<(R0.length:Int)+1:=K9;have dU:Rg Z ((i':Int)+1)=(i':Int)+1:=iw;have cz:=fh he.iV;obtain⟨i0,hi,d3,d4,d5⟩:=Tn Cx;have cm:=Ec (P:=prog) 26 3 i0 _ underlying26 hi d3 Z Z P.E.p.length P.E.p.length (Ru _) (by rw[d5];omega) K9;rw[d4,TO] at cm;have cn:∀ w:U,(Instr.makeSlice 26 (J Z (P.E.p.length:Int)) (J Z (P.E.p.length:Int))).run prog w=.ok (G (D ⟨w.heap.size,0,C⟩) P.E.p.length P.E.p.length) (w.alloc (F (SM #[J Z 0] P.E.p.length) 3)):=fun w=>cm w;clear cm hi d3 d4 d5;have dQ:=hR.up ba;have ab:=hR.hl;go_enter func204,ntmps204;go_upto_region 0 with(fail);go_quiet (fail);go_upto_region 1 with(fail);go_quiet (fail);go_wp2_with(first | (go_at_call 160;(with_reducible refine(zbo (Ty.up _ dQ gF) ab).mono ?_);rw[cz.out];rintro e9 w1 ⟨rfl,cO⟩;have z0:=za (fu.trans (b:=_) gF cO) z0));have cG:fu W w1:=fu.trans (b:=_) gF cO;have eh:((w1.alloc (F (SM #[J Z 0] P.E.p.length) 3)).alloc (F #[] 264)).heap[w1.heap.size]?=D (F (SM #[J Z 0] P.E.p.length) 3 (0,0)):=zj (Re w1 _) gF;have ee:((w1.alloc (F (SM #[J Z 0] P.E.p.length) 3)).alloc (F #[] 264)).heap[w1.heap.size+1]?=D (F #[] 264 (0,0)):=by have h:=Re (w1.alloc (F (SM #[J Z 0] P.E.p.length) 3)) (F #[] 264);rw[Rz] at h;exact h
 have bN:fu W ((w1.alloc (F (SM #[J Z 0] P.E.p.length) 3)).alloc (F #[] 264)):=cG.trans gF;obtain⟨gh,bZ⟩:∃ gh,w1.heap.size=gh:=⟨_,rfl⟩
 have c0:W.heap.size<=gh:=by have:=cG.size;omega
 rw[bZ] at eh ee |-;have e8:=fh bZ;clear bZ;generalize ((w1.alloc _).alloc _)=w2 at eh ee bN |-;have cE:∀ b∈Lm++Sv,b<W.heap.size:=fun b hb=>(Rr.1 hb).elim (hB.st.iX.2.2.1 b) (hB.ut.lt b);have dR:s.wl []=s:=by unfold fH.wl;rw[<-cX]
 have hTlt:(∀ b∈T.Sc,b<W.heap.size)/\∀ b∈T.Sl,b<W.heap.size:=⟨hB.io.lt,hB.un.lt⟩
 have dd:Hid (gA [] P T R0 s W (Lm++Sv) (D ⟨gh,0,C⟩) P.E.p.length [gh] ⟨m,[],RN P.E.p.length 0,[]⟩ (D ⟨gh+1,0,C⟩) 0 [gh+1] (Lm++Sv) w2):=fh
  ⟨by rw[dR];exact⟨Av,cv,Sv,Lm,hB.fy bN,rfl⟩,bN.only _,fun b hb=>.inl hb,by simpa using NS eh K9,Has.Wy re ee,
   fun b hb=>by simp only[Rc] at hb;subst hb;exact⟨fun hm=>by have:=cE _ hm;omega,II,c0⟩,
   fun b hb=>by simp only[Rc] at hb;subst hb;exact⟨fun hm=>by have:=cE _ hm;omega,K9⟩,fun p hp=>by cases hp⟩
 obtain⟨LF,bv⟩:∃ LF,p8 P.E (fun k g m=>jQ P.E (jc P.E d) (a0++[s.f]) k s g m) (a0++[s.f]) s e' (P.E.p.drop (i'+1)) (e'+1-(i'+1)) (i'+1) ⟨m,[],RN P.E.p.length 0,[]⟩=LF:=⟨_,rfl⟩
 have da:Hid (jc P.E (d+1) (a0++[s.f]) s m=(LF.m,LF.ut)):=fh (by
  show wI P.E (fun fs s k g m=>jQ P.E (jc P.E d) fs k s g m) (a0++[s.f]) s m=_;unfold wI;simp only[av.out,cz.out,Ry,cX];rw[av.out] at bv
  rw[show e'-i'=e'+1-(i'+1) from K9,bv])
 have d9:=fh bv;have cr:lj P.E ⟨m,[],RN P.E.p.length 0,[]⟩:=⟨hm,fun j hj=>(by cases hj),fun z hz=>(by cases hz),fun a ha=>(by rw[Uc ha];simp)⟩
 clear cx s0 s1 s2 s3 s4 s5 z0 z1 z2 z5 z6 z7 z8 z9 bs bv eh ee cn;go_loopw [6,7] (fun z6 z7 wr=>∃(k:Nat) (L:jk) (Ae:X RJ) (ce:Nat) (Se L':Q Nat),z6=G Ae L.fS.length ce/\z7=J Z k/\i'<k/\k<=e'+1/\Hid (gA [] P T R0 s W (Lm++Sv) (D ⟨gh,0,C⟩) P.E.p.length [gh] L Ae ce Se L' wr)/\Hid (lj P.E L)/\L.m.jp=m.jp/\max L.m.pi.length (200+iQ d)<=max m.pi.length (200+iQ d)+24*(k-(i'+1))/\L.fS.length<=62*(k-(i'+1))/\L.ut.length<=k-(i'+1)/\L.fN.length=P.E.p.length/\Hid (p8 P.E (fun k g m=>jQ P.E (jc P.E d) (a0++[s.f]) k s g m) (a0++[s.f]) s e' (P.E.p.drop k) (e'+1-k) k L=LF)) (fun _ z7 _=>e'+1-(RS z7).toNat)
 case atStart=>exact⟨i'+1,_,_,0,_,_,rfl,Ar,K9,K9,dd,fh cr,rfl,TR _ _,II,II,II,d9⟩
 case round=>
  obtain⟨k,L,Ae,ce,Se,L',rfl,rfl,hik,eg,a6,aT,hdk,hck,hxk,hvk,bb,hG⟩:=hrel;by_cases hle:k<=e'
  ·have ca:k<P.E.p.length:=K9
   have hx:P.E.p[k]?=D P.E.p[k]:=Rn ca;generalize P.E.p[k]=x at hx
   have cV:kP P.E.p k≠0:=by
    rw[yj hx];intro h;by_cases aE:k=e'
    ·subst aE
     obtain⟨y,hy,h7⟩:=he.last;rw[hx] at hy;injection hy with hy
     rw[hy] at h;omega
    ·exact(ap k x hik K9 hx).1 h
   obtain⟨ej,d2⟩:=hrep T R0 s a0 k hs hfs hd hF hn ca cV;have aq:0<=L.m.jp/\L.m.jp<=jS (d+1):=⟨K9,K9⟩
   obtain⟨aU,aW⟩:=F3 hR.env hs d2 aT.out av.out he hik hle hx aq
   have hG2:Hid (p8 P.E (fun k g m=>jQ P.E (jc P.E d) (a0++[s.f]) k s g m) (a0++[s.f]) s e' (P.E.p.drop (k+1)) (e'+1-(k+1)) (k+1) (lM P.E (fun g m=>jQ P.E (jc P.E d) (a0++[s.f]) k s g m) (a0++[s.f]) s e' k x L)=LF):=fh (by
    rw[<-hG.out,J4 hx,show e'+1-k=(e'+1-(k+1))+1 from K9]
    rfl)
   have HOK2:=fh aU;have HST2:=fh aW;have b4:iQ d<=1000:=by unfold iQ;omega
   have bR:jS (d+1)<=900:=by unfold jS;omega
   have dL:L.m.pi.length<=7000:=K9;have hxl:L.fS.length<=100000:=K9;have hvl:L.ut.length<=100000:=K9;obtain⟨gp,op,x',bC,bH,bD,bI,bM,c5,cw,p0,p1,p2,p3,q0,q1,q2,_⟩:=lS (hR.up (a6.out.mK)) ca;obtain rfl:x'=x:=by rw[hx] at cw;injection cw with h;exact h.symm
   have hkI:fE (k:Int):=⟨K9,K9⟩
   have dH:(k:Int)<=(e':Int):=K9;have dI:(k:Int)<(P.E.p.length:Int):=K9;have eo:Rg Z ((k:Int)+1)=(k:Int)+1:=iw;obtain⟨z0,z1,z2,z5,z6,z7,z8,z9,bs,zf,zl⟩:=a6.out.ir;rw[bM] at z0;have ea:=fh bM;have HX:=fh hx;clear hx cw bM aU aW hG;have cF:=a6.out.jb (cs:=#[J Z x'.li,V x'.pu,G bC x'.fL.length bH,G bD x'.Expr.length bI]) (t:=99);obtain⟨g8,bX⟩:∃ g8,wr.heap.size=g8:=⟨_,rfl⟩
   have bz:=IM (tgt:=(k:Int)) cF (fun z hz=>aT.out.fS z hz) K9 hxl;obtain⟨m0,ch⟩:∃ m0,lK L.m L.fS k=m0:=⟨_,rfl⟩
   have bo:=CF (n0:=0) aT.out.mo (tgt:=(k:Int)) (es:=L.fS) aT.out.fS;rw[ch] at bz bo;rw[bX] at bz;go_upto_region 10 with(first | (go_at_call 210;(with_reducible refine bz.mono ?_);rintro e9 w3 ⟨rfl,L3,al⟩));have ay:=(al.kb _ (.head _)).1;simp only at ay;have e7:=fh bX;have ad:=fh ch;have bF:=fh bo;have bi:m0.jp=L.m.jp:=by have h9:=bo.jp;omega
   have co:m0.pi.length<=7000:=by have h9:=bo.cnt;omega
   clear a6 cF bz ch bX bo z0 z1 z2 z5 z6 z7 z8 z9 bs zf zl p0 p1 p2 p3;obtain⟨b0,b1,b2,b3,bf,bl⟩:=iL ay;have hchl:=hs.io.1;have hsc:s.io.length<=1000:=K9;have h00:fE 0:=⟨K9,K9⟩
   by_cases k4:x'.li=4
   ·as_aux_lemma=>
    have r4:(x'.li == 4)=M:=RQ.2 k4;obtain⟨EX,aQ⟩:∃ e,L.fS++nR P.E.p k (m0.pi.length:Int) (k-i') i'=e:=⟨_,rfl⟩
    have aR:EX.length<=L.fS.length+(k-i'):=by rw[<-aQ,Rh];have:=DY P.E.p k (m0.pi.length:Int) (k-i') i';omega
    have bm:(L.m.pi.length:Int)=(m0.pi.length:Int):=by rw[<-ad.out];exact Ta Nat.cast ((tO _ _ _ _).2).symm
    have HHQ:Hid (lM P.E (fun g m=>jQ P.E (jc P.E d) (a0++[s.f]) k s g m) (a0++[s.f]) s e' k x' L=⟨lK (zI P.E m0 10 0 k s.io) EX (-(k:Int)),L.ut,L.fN,EX⟩):=fh (by
     unfold lM;simp only
     rw[Rs k4,ad.out,av.out,Ry,bm,aQ])
    have a8:m0.pi.length<=100000:=K9;have bj:(zI P.E m0 10 0 k s.io).pi.length<=100000:=by rw[xh];omega
    have bK:fE 10:=⟨K9,K9⟩
    have bS:fE m0.jp:=⟨K9,K9⟩
    have bd:fE (m0.pi.length:Int):=⟨K9,K9⟩
    have dW:Rg Z (-(k:Int)) = -(k:Int):=iw;have bL:EX.length<=100000:=K9
    have bE:Hid (∀ e∈EX,gV (zI P.E m0 10 0 k s.io).pi e.2):=fh (fun e he=>by
     rw[<-aQ] at he;rcases Rr.1 he with h | h
     ·exact(bF.out.keeps.jump _ (aT.out.fS e h)).WH
     ·rw[yX _ _ _ _ _ e h]
      exact AH P.E m0 10 0 k s.io (.inl rfl))
    have d7:=fh aQ;have au:=fh aR;clear k4 aQ aR bm;go_wp2_with(fail);go_loopw [6,9] (fun z6 z9 wr=>∃(i:Nat) (xs:Q (Int × Int)) (aK:X RJ) (aP:Nat) (bt L4:Q Nat),z6=G aK xs.length aP/\z9=J Z i/\i'<=i/\i<=k/\Hid (gA [(g8,F #[J Z x'.li,V x'.pu,G bC x'.fL.length bH,G bD x'.Expr.length bI] 99 (0,0))] P T R0 s W (Lm++Sv) (D ⟨gh,0,C⟩) P.E.p.length [gh] ⟨m0,L.ut,L.fN,xs⟩ aK aP bt L4 wr)/\Hid (xs++nR P.E.p k (m0.pi.length:Int) (k-i) i=EX)/\xs.length<=L.fS.length+(i-i')) (fun _ z9 _=>k-(RS z9).toNat)
    case atStart=>exact⟨i',L.fS,Ae,ce,Se,L3,rfl,rfl,Ru _,Vd hik,fh al,d7,TR _ _⟩
    case round=>
     obtain⟨i,xs,aK,aP,bt,L4,rfl,rfl,dB,dC,a1,bO,dY⟩:=hrel;by_cases hlt4:i<k
     ·have aD:(i:Int)<(k:Int):=K9
      have cu:Rg Z ((i:Int)+1)=(i:Int)+1:=iw;have an:=hR.up (a1.out.mK);have z0:=a1.out.ir.1;obtain⟨e4,ef,z10⟩:=a1.out.sU;simp only at z10;obtain⟨bJ,af⟩:∃ v,kh P.E.p i=v:=⟨_,rfl⟩
      have aM:=fh af;by_cases heq4:bJ=(k:Int)
      ·have aF:(bJ == (k:Int))=M:=RQ.2 heq4
       obtain⟨a7,a2⟩:∃ v,iP P.E.p i=v:=⟨_,rfl⟩
       have cM : -1<=a7/\a7<=60:=by
        rcases wB P.E.p i with h | ⟨a,e2,h,h2,h3⟩
        ·omega
        ·have:=h3.len;omega
       have dT:Rg Z (a7+1)=a7+1:=iw;have b5:fE (a7+1):=⟨K9,K9⟩
       have ac:=fh a2
       have bG:Hid ((xs++[(a7+1,(m0.pi.length:Int))])++nR P.E.p k (m0.pi.length:Int) (k-(i+1)) (i+1)=EX):=fh (by
        have h9:=bO.out;rw[J6 hlt4 (by rw[af,heq4]),a2] at h9;rw[RU]
        exact h9)
       clear af a2 heq4;go_upto_region 17 with(first | (go_at_call 192;(with_reducible refine(zgW (Ty.up _ an gF) ab).mono ?_);rw[aM.out];rintro e9 w5 ⟨rfl,a4⟩;have z0:=za a4 z0;have z10:=za a4 z10) | (go_at_call 160;(with_reducible refine(zbo (Ty.up _ (hR.up (a1.out.fy a4).mK) gF) ab).mono ?_);rw[ac.out];rintro e9 w6 ⟨rfl,cP⟩;have z10:=za cP z10));have a5:=(a1.out.fy a4).fy cP;have ct:re.R w6 w6.heap.size [J Z (a7+1),J Z (m0.pi.length:Int)] (a7+1,(m0.pi.length:Int)):=⟨[J Z (a7+1)],[J Z (m0.pi.length:Int)],rfl,⟨rfl,b5.1,b5.2⟩,⟨rfl,bd.1,bd.2⟩⟩
       have ep:=a5.ir.2.2.2.2.2.2.2.2.2.1;go_wp2_with(first | (at_builtin;refine zD (L:=xs.length+1) rfl (.tmp 96) (.tmp 104) DL Dx (a5.ex.fy gF) ct rfl rfl rfl (by intro j u hu;simpa[go_sem] using hu) rfl K9 K9 ?_;intro A9 c9 w9 S9 hon hH9 hS9));have dj:=gA.fS (xs:=xs++[(a7+1,(m0.pi.length:Int))]) (a5.fy gF) hYW hTlt (gA.xL (a5.fy gF)) hon (by rw[Rh];exact hH9) hS9;go_roundw
       case measure=>(clear au;simp[RS];try omega)
       case rel=>exact⟨i+1,_,A9,c9,S9,L4,by rw[Rh];rfl,Ar,K9,K9,fh dj,bG,by rw[Rh,R4];omega⟩
      ·have aF:(bJ == (k:Int))=I:=Rm.2 heq4
       have bG:Hid (xs++nR P.E.p k (m0.pi.length:Int) (k-(i+1)) (i+1)=EX):=fh (by
        have h9:=bO.out;rw[Ky hlt4 (by rw[af];exact heq4)] at h9
        exact h9)
       clear af heq4;go_wp2_with(first | (go_at_call 192;(with_reducible refine(zgW (Ty.up _ an gF) ab).mono ?_);rw[aM.out];rintro e9 w5 ⟨rfl,a4⟩));go_roundw
       case measure=>(clear au;simp[RS];try omega)
       case rel=>exact⟨i+1,xs,aK,aP,bt,L4,rfl,Ar,K9,K9,fh (a1.out.fy a4),bG,K9⟩
     ·obtain rfl:k=i:=K9
      have aD:¬ ((k:Int)<(k:Int)):=K9
      have dl:xs=EX:=by
       have h9:=bO.out;rw[J5,Tl] at h9;exact h9
      subst dl;go_wp2_with(first | (go_at_call 203;(with_reducible refine(yF a1.out hsc a8 bK h00 hkI bS).mono ?_);rintro e9 w7 ⟨rfl,L7,hR7⟩) | (go_at_call 210;(with_reducible refine(IM hR7 bE.out bj bL).mono ?_);rintro e9 w8 ⟨rfl,L8,hR8⟩));clear r4;have hok9:=HOK2.out;have hst9:=HST2.out;have hg9:=hG2.out;rw[HHQ.out] at hok9 hst9 hg9;have hc9:=hst9.cnt;have hd9:=hst9.jp;simp only at hc9 hd9;have HCNT:max (lK (zI P.E m0 10 0 k s.io) xs (-(k:Int))).pi.length (200+iQ d)<=max m.pi.length (200+iQ d)+24*(k+1-(i'+1)):=tQ hc9 hck hik;have HDEP:(lK (zI P.E m0 10 0 k s.io) xs (-(k:Int))).jp=m.jp:=hd9.trans ((TF _).trans hdk);have HLVS:(L.ut).length<=k+1-(i'+1):=tT hvk (UO _) hik;have HOK9:=fh hok9;have HG9:=fh hg9;clear hok9 hst9 hg9 hc9 hd9;go_roundw
      case measure=>(clear hn hfs hd hcnt hd0 hd1 hsc hchl hck hdk hxk hvk hxl hvl HCNT HDEP HLVS;simp[RS];try omega)
      case rel=>exact⟨k+1,(⟨lK (zI P.E m0 10 0 k s.io) xs (-(k:Int)),L.ut,L.fN,xs⟩:jk),aK,aP,bt,L8,rfl,Ar,Tx hik,TD hle,fh (hR8.drop (fun _ h=>by cases h)),HOK9,HDEP,HCNT,OA hxk au.out hik K9,HLVS,bb,HG9⟩
   have r4:(x'.li == 4)=I:=Rm.2 k4;by_cases k7:x'.li=7
   ·have r7:(x'.li == 7)=M:=RQ.2 k7
    by_cases kee:k=e'
    ·as_aux_lemma=>
     have aE:((k:Int) == (e':Int))=M:=by rw[kee];exact beq_self_eq_true _
     obtain⟨m1,bh⟩:∃ m1,mg P.E m0 0 k s.io=m1:=⟨_,rfl⟩
     obtain⟨LB,aw⟩:∃ LB,kQ P.E s k M ⟨m1,L.ut,L.fN,L.fS⟩=LB:=⟨_,rfl⟩
     have HQ:lM P.E (fun g m=>jQ P.E (jc P.E d) (a0++[s.f]) k s g m) (a0++[s.f]) s e' k x' L=⟨LB.m,LB.ut,L.fN,L.fS⟩:=by
      unfold lM;simp only;rw[Ro k4,Rs k7,Rs kee,ad.out,bh];show kQ P.E s k M ⟨m1,L.ut,L.fN,L.fS⟩=_;have h9:=EC P.E s k M m1 L.ut L.fN L.fS;rw[aw] at h9 |-;rw[<-h9.1,<-h9.2]
     have bP : -1000000<=m0.jp/\m0.jp<=1000000:=⟨K9,K9⟩
     have bQ : -1000000<=m1.jp/\m1.jp<=1000000:=by rw[<-bh];exact⟨by simp only[mg,fT.gw];omega,by simp only[mg,fT.gw];omega⟩
     have cp:m1.pi.length<=100000:=by rw[<-bh];simp only[mg,fT.gw,xh];omega
     have db:=fh bh;have aO:=fh aw;have HHQ:=fh HQ;have ai:R0.length<=100:=K9;have a8:m0.pi.length<=100000:=K9;clear k4 k7 kee bh aw HQ bi;go_wp2_with(first | (go_at_call 211;(with_reducible refine(Ob al hsc a8 h00 bP hkI).mono ?_);rw[db.out];rintro e9 w4 ⟨rfl,L4,a1⟩) | (go_at_call 212;(with_reducible refine(IB a1 hR.env hsc cp hvl bQ hkI ai).mono ?_);rw[aO.out];rintro e9 w5 ⟨rfl,L5,aV⟩));clear r4 r7;have hok9:=HOK2.out;have hst9:=HST2.out;have hg9:=hG2.out;rw[HHQ.out] at hok9 hst9 hg9;have hc9:=hst9.cnt;have hd9:=hst9.jp;simp only at hc9 hd9;have HCNT:max (LB.m).pi.length (200+iQ d)<=max m.pi.length (200+iQ d)+24*(k+1-(i'+1)):=tQ hc9 hck hik;have HDEP:(LB.m).jp=m.jp:=hd9.trans ((TF _).trans hdk);have HLVS:(LB.ut).length<=k+1-(i'+1):=tT hvk (by have h8:=Gb P.E s k M m1 L.ut L.fN L.fS;rw[aO.out] at h8;exact h8) hik;have HOK9:=fh hok9;have HG9:=fh hg9;clear hok9 hst9 hg9 hc9 hd9;go_roundw
     case measure=>(clear hn hfs hd hcnt hd0 hd1 hsc hchl hck hdk hxk hvk hxl hvl HCNT HDEP HLVS;simp[RS];try omega)
     case rel=>exact⟨k+1,(⟨LB.m,LB.ut,L.fN,L.fS⟩:jk),Ae,ce,Se,L5,rfl,Ar,Tx hik,TD hle,fh (aV.drop (fun _ h=>by cases h)),HOK9,HDEP,HCNT,yr hxk hik,HLVS,bb,HG9⟩
    ·as_aux_lemma=>
     have aE:((k:Int) == (e':Int))=I:=Rm.2 K9;have a8:m0.pi.length<=7000:=K9;have dV:Rg Z ((i':Int)+1)=(i':Int)+1:=iw;have bK:fE 10:=⟨K9,K9⟩
     obtain⟨mB,ck⟩:∃ mB,nH P.E k s.io L.fN (k-(i'+1)) (i'+1) m0=mB:=⟨_,rfl⟩
     have HHQ:Hid (lM P.E (fun g m=>jQ P.E (jc P.E d) (a0++[s.f]) k s g m) (a0++[s.f]) s e' k x' L=⟨mB,L.ut,L.fN,L.fS⟩):=fh (by
      unfold lM;simp only;rw[Ro k4,Rs k7,Ro kee,ad.out,av.out,Ry,ck]
      rfl)
     have dc:=fh ck;have dr:0<=m0.jp/\m0.jp<=1000:=⟨K9,K9⟩
     clear k4 k7 kee ck;go_wp2_with(fail);go_loopw [11] (fun z11 wr=>∃(i:Nat) (m4:fT) (L4:Q Nat),z11=J Z i/\i'<i/\i<=k/\Hid (gA [(g8,F #[J Z x'.li,V x'.pu,G bC x'.fL.length bH,G bD x'.Expr.length bI] 99 (0,0))] P T R0 s W (Lm++Sv) (D ⟨gh,0,C⟩) P.E.p.length [gh] ⟨m4,L.ut,L.fN,L.fS⟩ Ae ce Se L4 wr)/\Hid (nH P.E k s.io L.fN (k-i) i m4=mB)/\m4.pi.length<=7000+i/\m4.jp=m0.jp) (fun z11 _=>k-(RS z11).toNat)
     case atStart=>exact⟨i'+1,m0,L3,Ar,K9,K9,fh al,dc,K9,rfl⟩
     case round=>
      obtain⟨i,m4,L4,rfl,dB,dC,a1,bu,dO,az⟩:=hrel;by_cases hlt4:i<k
      ·have aD:(i:Int)<(k:Int):=K9
       have c7:i<P.E.p.length:=K9;have dF:(i:Int)<(P.E.p.length:Int):=K9;have cu:Rg Z ((i:Int)+1)=(i:Int)+1:=iw;have an:=hR.up (a1.out.mK);obtain⟨gq,oq,xq,e1,ec,e3,ed,ak,dz,bB,y0,_⟩:=lS an c7;have an:=hR.up (a1.out.mK);have z0:=a1.out.ir.1;rw[ak] at z0 an;have ah:=a1.out.hd.1;obtain⟨a7,a2⟩:∃ v,iP P.E.p i=v:=⟨_,rfl⟩
       have ac:=fh a2;have be:(P.E.p[i]?.map fw.li)=D xq.li:=by rw[bB];rfl
       have bT:fE m4.jp:=⟨K9,K9⟩
       have bk:m4.pi.length<=100000:=K9;by_cases heq4:a7=(k:Int)
       ·have aF:(a7 == (k:Int))=M:=RQ.2 heq4
        by_cases hq5:xq.li=5
        ·have dZ:(xq.li == 5)=M:=RQ.2 hq5
         have dA:i<L.fN.length:=K9;have bw:L.fN[i]?=D (L.fN[i]'dA):=Rn _;generalize L.fN[i]'dA=hv4 at bw;obtain⟨df,b9,cS,cR,ar,bc,_,_⟩:=a1.out.head hYW hTlt bw;obtain rfl:df=gh:=by injection b9 with h;injection h with h;exact h.symm
         have aL:Hid (nH P.E k s.io L.fN (k-(i+1)) (i+1) (zI P.E m4 10 hv4 k s.io)=mB):=fh (by
          have h9:=bu.out;rw[MX hlt4 ⟨by rw[a2,heq4],by rw[be,hq5]⟩,Sf,bw] at h9
          exact h9)
         clear a2 heq4 hq5 be bB ak bw b9 ah;go_wp2_with(first | (go_at_call 160;(with_reducible refine(zbo (Ty.up _ an gF) ab).mono ?_);rw[ac.out];rintro e9 w5 ⟨rfl,a4⟩;have z0:=za a4 z0;have y0:=za a4 y0;have ar:=za a4 ar) | (go_at_call 203;(with_reducible refine(yF (a1.out.fy a4) hsc bk bK bc hkI bT).mono ?_);rintro e9 w7 ⟨rfl,L7,hR7⟩));go_roundw;exact⟨i+1,_,L7,Ar,K9,K9,fh hR7,aL,by rw[xh];omega,az⟩;exact gM
        ·have dZ:(xq.li == 5)=I:=Rm.2 hq5
         have aL:Hid (nH P.E k s.io L.fN (k-(i+1)) (i+1) m4=mB):=fh (by
          have h9:=bu.out;rw[G1 hlt4 (fun h=>hq5 (by have h8:=h.2;rw[be] at h8;injection h8))] at h9
          exact h9)
         clear a2 heq4 hq5 be bB ak ah;go_wp2_with(first | (go_at_call 160;(with_reducible refine(zbo (Ty.up _ an gF) ab).mono ?_);rw[ac.out];rintro e9 w5 ⟨rfl,a4⟩;have z0:=za a4 z0;have y0:=za a4 y0));go_roundw;exact⟨i+1,m4,L4,Ar,K9,K9,fh (a1.out.fy a4),aL,K9,az⟩;exact gM
       ·have aF:(a7 == (k:Int))=I:=Rm.2 heq4
        have aL:Hid (nH P.E k s.io L.fN (k-(i+1)) (i+1) m4=mB):=fh (by
         have h9:=bu.out;rw[G1 hlt4 (fun h=>heq4 (by rw[<-a2];exact h.1))] at h9
         exact h9)
        clear a2 heq4 be bB ak ah;go_wp2_with(first | (go_at_call 160;(with_reducible refine(zbo (Ty.up _ an gF) ab).mono ?_);rw[ac.out];rintro e9 w5 ⟨rfl,a4⟩));go_roundw;exact⟨i+1,m4,L4,Ar,K9,K9,fh (a1.out.fy a4),aL,K9,az⟩;exact gM
      ·obtain rfl:k=i:=K9
       have aD:¬ ((k:Int)<(k:Int)):=K9
       have di:m4=mB:=by
        have h9:=bu.out;rw[MW] at h9;exact h9
       subst di;go_wp2_with(fail);clear r4 r7;have hok9:=HOK2.out;have hst9:=HST2.out;have hg9:=hG2.out;rw[HHQ.out] at hok9 hst9 hg9;have hc9:=hst9.cnt;have hd9:=hst9.jp;simp only at hc9 hd9;have HCNT:max (m4).pi.length (200+iQ d)<=max m.pi.length (200+iQ d)+24*(k+1-(i'+1)):=tQ hc9 hck hik;have HDEP:(m4).jp=m.jp:=hd9.trans ((TF _).trans hdk);have HLVS:(L.ut).length<=k+1-(i'+1):=tT hvk (UO _) hik;have HOK9:=fh hok9;have HG9:=fh hg9;clear hok9 hst9 hg9 hc9 hd9;go_roundw
       case measure=>(clear hn hfs hd hcnt hd0 hd1 hsc hchl hck hdk hxk hvk hxl hvl HCNT HDEP HLVS;simp[RS];try omega)
       case rel=>exact⟨k+1,(⟨m4,L.ut,L.fN,L.fS⟩:jk),Ae,ce,Se,L4,rfl,Ar,Tx hik,TD hle,fh (a1.out.drop (fun _ h=>by cases h)),HOK9,HDEP,HCNT,yr hxk hik,HLVS,bb,HG9⟩
   have r7:(x'.li == 7)=I:=Rm.2 k7
   have c8:k<e':=by
    rcases UU k e' with h | h
    ·exact h
    ·exfalso
     obtain rfl:k=e':=K9;obtain⟨y,hy,h7⟩:=he.last;rw[HX.out] at hy;injection hy with hy
     exact k7 (by rw[hy];exact h7)
   obtain⟨cH,dp,_,cI⟩:=ap k x' hik c8 HX.out;have cW:=zu.1 (hR.env.pc.kind k x' HX.out);have b6:rB x'.li=M:=CD cW cH k4 k7;obtain⟨ee,bW,bU,dv⟩:=hR.env.pc.expr k x' HX.out b6
   have d0:kG P.E.p s.un ee.flat=M:=by
    rw[<-bU,hs.un.1,av.out];exact dp
   obtain⟨L4,a1⟩:=al.next (lv':=L.ut) ((gg.refl al.st).num (m':=m0.begun) (i:=12) (v:=H M) rfl (fun _ _ _ _ _ _ _ _ _=>rfl));have bx:L.fN[k]?=D (L.fN[k]'(K9)):=Rn _;generalize L.fN[k]'(K9)=hv0 at bx;obtain⟨cC,b7,c3,c2,c1,c6,c4,_⟩:=al.head hYW hTlt bx;obtain⟨cD,b8,_,_,_,_,_,bp⟩:=a1.head hYW hTlt bx;obtain rfl:cC=gh:=by injection b7 with h;injection h with h;exact h.symm
   obtain rfl:cD=cC:=by injection b8 with h;injection h with h;exact h.symm
   obtain⟨nn,cq⟩:∃ n,m0.pi.length=n:=⟨_,rfl⟩
   have cZ:L.m.pi.length=nn:=by rw[<-cq,<-ad.out];exact((tO _ _ _ _).2).symm
   have cY:fE (nn:Int):=⟨K9,K9⟩
   have aV:=bp nn cY;have bg:iC P.E m0.begun:=⟨bF.out.ok.ia,bF.out.ok.pos⟩
   have aZ:jS d=jS (d+1)+30:=by unfold jS;omega
   have bV:=ee.size_pos;have cL:max (m0.begun).pi.length (200+iQ d)+ee.size<=8000:=by show max m0.pi.length _+_<=_;omega
   have aA:0<=(m0.begun).jp:=by show 0<=m0.jp;omega
   have aB:(m0.begun).jp+ee.size<=jS d+1:=by show m0.jp+_<=_;omega
   have ae:=Qv hR hs hrep hfs hd hF hn HX.out cV aV bW bU d0 bg cL aA aB;have aa:=Ex.iJ hR.env hs d2 (k:=(k:Int)) ⟨K9,K9⟩ ee m0.begun bW d0 bg aA aB;rw[<-AT bW,<-bU] at aa;obtain⟨m6,cj⟩:∃ m6,tH P.E (fun g m=>jQ P.E (jc P.E d) (a0++[s.f]) k s g m) (a0++[s.f]) s k x'.Expr m0.begun=m6:=⟨_,rfl⟩
   rw[cj] at aa ae;have cJ:m6.jp=m0.jp+1:=aa.jp;have dq:m6.pi.length<=max m0.pi.length (200+iQ d)+ee.size:=aa.cnt;have hml6:m6.pi.length<=100000:=K9;have aG:=fh cj;have de:=fh aa;have aH:=fh cZ;obtain⟨Ai,ci,z10⟩:=al.sU;rw[cq] at z10;obtain⟨z0,z1,z2,z5,z6,z7,z8,z9,bs,zf,zl⟩:=al.ir;have dP:P.g≠cD:=Ne.symm c4;clear cj aa cq bp a1 bx b7 b8 cZ z1 z2 z5 z6 z7 z8;go_upto_region 32 with(first | (go_at_call 213;(with_reducible refine ae.mono ?_);rintro e9 w6 ⟨⟨v9,rfl⟩,L6,a5⟩));have aX:=(a5.kb _ (.head _)).1;simp only at aX;clear b0 b1 b2 b3 bf bl ay z0 z9 z10 bs zf zl c1 c2 c3;obtain⟨b0,b1,b2,b3,bf,bl⟩:=iL aX;have ds:0<=m6.jp/\m6.jp<=1000:=⟨K9,K9⟩
   have e6:=fh cJ;have HHK:Hid ((L.fN.set k (nn:Int)).length=P.E.p.length):=fh (by rw[RP];exact bb);have hdI6:fE m6.jp:=⟨K9,K9⟩
   have dS:Rg Z (m6.jp-1)=m6.jp-1:=iw;have aY : -1000000<=m6.jp/\m6.jp<=1000000:=⟨K9,K9⟩
   have ai:R0.length<=100:=K9;have d6:=fh cI;have eb:=fh bq;clear cI cH b6 bq;clear cJ bi ae bb cL aA aB dq aZ cW dv bV sl c5 dU co cY c6 bR aq dL dM cf dE b4;by_cases k1:x'.li=1
   ·as_aux_lemma=>
    have r1:(x'.li == 1)=M:=RQ.2 k1;have cU:=yD s.un x'.pu 0 (by rw[hs.un.1,av.out];exact d6.out k1);obtain⟨ix,am⟩:∃ v,qV s.un x'.pu 0=v:=⟨_,rfl⟩
    rw[am] at cU;have d8:Hid (lV s.un x'.pu 0=ix):=fh (by rw[Dn,am])
    have HHQ:Hid (lM P.E (fun g m=>jQ P.E (jc P.E d) (a0++[s.f]) k s g m) (a0++[s.f]) s e' k x' L=⟨ni P.E m6 s ix k s.io,L.ut,L.fN.set k (nn:Int),L.fS⟩):=fh (by
     unfold lM;simp only;rw[Ro k4,Ro k7,ad.out,aG.out,aH.out,Rs k1,am]
     rfl)
    have cg:=hs.un.2;have dK:s.un.length<=8796093022208:=K9;have dD:0<=ix/\ix<=100:=⟨K9,K9⟩
    have dx:=hs.first;have dy : -1000<=s.first/\s.first<=1000:=⟨K9,K9⟩
    have dm:=hR.env.args;have dn:0<=P.E.args/\P.E.args<=100:=⟨K9,K9⟩
    obtain⟨gs,cs,Av,cv,cx,s0,s1,s2,s3,s4,s5,sl,sf,aS,oP,d1⟩:=a5.row;simp only at s5;have e5:=fh d1;clear k1 k4 k7 am cU cg dx dm d1;go_upto_region 40 with(fail);go_cut [12] from 226 to 237 (fun v wx=>∃ aj,v=.pointer (D ⟨aj,0,C⟩)/\fu w6 wx/\wx.heap[aj]?=D (F #[J Z s.f,G T.Ac s.io.length T.cc,G T.Al s.un.length T.cl,J Z s.first,H s.UV,G Av L.ut.length cv] 253 (0,0))/\w6.heap.size<=aj)
    case first=>
     go_region_held3 (fun w'=>Rb w' ⟨P.g,11,C⟩=D (G (D ⟨gs,0,C⟩) (R0.length+1) cs)/\Rb w' ⟨gs,R0.length*6,C⟩=D (J Z s.f)/\Rb w' ⟨gs,R0.length*6+1,C⟩=D (G T.Ac s.io.length T.cc)/\Rb w' ⟨gs,R0.length*6+2,C⟩=D (G T.Al s.un.length T.cl)/\Rb w' ⟨gs,R0.length*6+3,C⟩=D (J Z s.first)/\Rb w' ⟨gs,R0.length*6+4,C⟩=D (H s.UV)/\Rb w' ⟨gs,R0.length*6+5,C⟩=D (G Av L.ut.length cv)) ((repeat' apply Rf) <;> ((repeat (first | with_reducible assumption | with_reducible refine zd ?_ _ _ | with_reducible refine zo ?_ _ | with_reducible refine zc ?_ | with_reducible refine Ez ?_ _));done)) (fail)
     all_goals go_wp2_with(fail)
     all_goals go_meet
     all_goals exact⟨_,rfl,gF,zj (Re w6 _) gF,Ru _⟩
    case rest=>
     obtain⟨aj,rfl,aC,ax,cd⟩:=hcut;obtain⟨o0,o1,o2,o3,o4,o5,of,ol⟩:=mU ax;have dk:=a5.BK aC ax cd;have dh:=Ty.up _ aS aC;have b1:=za aC b1;clear cx s0 s1 s2 s3 s4 s5 sf aS b0 b2 b3 bf bl ax;go_upto_region 41 with(fail);go_region_held3 (fun w'=>Rb w' ⟨aj,0,C⟩=D (J Z s.f)/\Rb w' ⟨aj,1,C⟩=D (G T.Ac s.io.length T.cc)/\Rb w' ⟨aj,2,C⟩=D (G T.Al s.un.length T.cl)/\Rb w' ⟨aj,3,C⟩=D (J Z s.first)/\Rb w' ⟨aj,4,C⟩=D (H s.UV)/\Rb w' ⟨aj,5,C⟩=D (G Av L.ut.length cv)/\Rb w' ⟨g8,1,C⟩=D (V x'.pu)) ((repeat' apply Rf) <;> ((repeat (first | with_reducible assumption | with_reducible refine zd ?_ _ _ | with_reducible refine zo ?_ _ | with_reducible refine zc ?_ | with_reducible refine Ez ?_ _));done)) (first | (go_at_call 193;(with_reducible refine(zfv (xs:=s.un) (Ty.up _ dh gF) dK).mono ?_);rw[d8.out];rintro e v1 ⟨rfl,a3⟩;have a9:fu wc v1:=fu.trans (b:=_) gF a3;have o0:=za a3 o0;have o1:=za a3 o1;have o2:=za a3 o2;have o3:=za a3 o3;have o4:=za a3 o4;have o5:=za a3 o5;have b1:=za a3 b1) | (go_at_call 214;(with_reducible refine(PF (s:=s) (dk.fy (fu.trans (b:=_) a9 gF)) hsc hml6 dD aY dy dn hkI).mono ?_);rintro e w7 ⟨rfl,L7,hR7⟩;obtain⟨o0,o1,o2,o3,o4,o5,of,ol⟩:=mU (hR7.kb _ (.head _)).1;have b1:=(iL (hR7.kb _ (.tail _ (.head _))).1).2.1));go_wp2_with(fail);clear r4 r7 r1;have hok9:=HOK2.out;have hst9:=HST2.out;have hg9:=hG2.out;rw[HHQ.out] at hok9 hst9 hg9;have hc9:=hst9.cnt;have hd9:=hst9.jp;simp only at hc9 hd9;have HCNT:max (ni P.E m6 s ix k s.io).pi.length (200+iQ d)<=max m.pi.length (200+iQ d)+24*(k+1-(i'+1)):=tQ hc9 hck hik;have HDEP:(ni P.E m6 s ix k s.io).jp=m.jp:=hd9.trans ((TF _).trans hdk);have HLVS:(L.ut).length<=k+1-(i'+1):=tT hvk (UO _) hik;have HOK9:=fh hok9;have HG9:=fh hg9;clear hok9 hst9 hg9 hc9 hd9;go_roundw
     case measure=>(clear hn hfs hd hcnt hd0 hd1 hsc hchl hck hdk hxk hvk hxl hvl HCNT HDEP HLVS;simp[RS];try omega)
     case rel=>exact⟨k+1,(⟨ni P.E m6 s ix k s.io,L.ut,L.fN.set k (nn:Int),L.fS⟩:jk),Ae,ce,Se,L7,rfl,Ar,Tx hik,TD hle,fh (hR7.drop (fun _ h=>by cases h)),HOK9,HDEP,HCNT,yr hxk hik,HLVS,HHK.out,HG9⟩
   have r1:(x'.li == 1)=I:=Rm.2 k1;by_cases k2:x'.li=2
   ·as_aux_lemma=>
    have r2:(x'.li == 2)=M:=RQ.2 k2;have dg:fE 17:=⟨K9,K9⟩
    have HHQ:Hid (lM P.E (fun g m=>jQ P.E (jc P.E d) (a0++[s.f]) k s g m) (a0++[s.f]) s e' k x' L=⟨(zI P.E m6 17 0 k s.io).gw (m6.jp-1),L.ut,L.fN.set k (nn:Int),L.fS⟩):=fh (by
     unfold lM;simp only;rw[Ro k4,Ro k7,ad.out,aG.out,aH.out,Ro k1,Rs k2]
     rfl)
    clear k1 k2 k4 k7;go_wp2_with(first | (go_at_call 203;(with_reducible refine(yF a5 hsc hml6 dg h00 hkI hdI6).mono ?_);rintro e9 w7 ⟨rfl,L7,hR7⟩;have y9:Rb w7 ⟨P.g,9,C⟩=D (J Z m6.jp):=hR7.ir.2.2.2.2.2.2.2.1;have yf:=hR7.ir.2.2.2.2.2.2.2.2.2.1;have yl:=hR7.ir.2.2.2.2.2.2.2.2.2.2));obtain⟨L8,hR8⟩:=hR7.next (lv':=L.ut) ((gg.refl hR7.st).num (m':=(zI P.E m6 17 0 k s.io).gw (m6.jp-1)) (i:=9) (v:=J Z (m6.jp-1)) rfl (fun _ _ _ _ _ _ _ _ _=>rfl));clear r4 r7 r1 r2;have hok9:=HOK2.out;have hst9:=HST2.out;have hg9:=hG2.out;rw[HHQ.out] at hok9 hst9 hg9;have hc9:=hst9.cnt;have hd9:=hst9.jp;simp only at hc9 hd9;have HCNT:max ((zI P.E m6 17 0 k s.io).gw (m6.jp-1)).pi.length (200+iQ d)<=max m.pi.length (200+iQ d)+24*(k+1-(i'+1)):=tQ hc9 hck hik;have HDEP:((zI P.E m6 17 0 k s.io).gw (m6.jp-1)).jp=m.jp:=hd9.trans ((TF _).trans hdk);have HLVS:(L.ut).length<=k+1-(i'+1):=tT hvk (UO _) hik;have HOK9:=fh hok9;have HG9:=fh hg9;clear hok9 hst9 hg9 hc9 hd9;go_roundw
    case measure=>(clear hn hfs hd hcnt hd0 hd1 hsc hchl hck hdk hxk hvk hxl hvl HCNT HDEP HLVS;simp[RS];try omega)
    case rel=>exact⟨k+1,(⟨(zI P.E m6 17 0 k s.io).gw (m6.jp-1),L.ut,L.fN.set k (nn:Int),L.fS⟩:jk),Ae,ce,Se,L8,rfl,Ar,Tx hik,TD hle,fh (hR8.drop (fun _ h=>by cases h)),HOK9,HDEP,HCNT,yr hxk hik,HLVS,HHK.out,HG9⟩
   have r2:(x'.li == 2)=I:=Rm.2 k2;by_cases k6:x'.li=6
   ·as_aux_lemma=>
    have r6:(x'.li == 6)=M:=RQ.2 k6;obtain⟨LB,aw⟩:∃ LB,kQ P.E s k I ⟨m6,L.ut,L.fN.set k (nn:Int),L.fS⟩=LB:=⟨_,rfl⟩
    have aO:=fh aw
    have HHQ:Hid (lM P.E (fun g m=>jQ P.E (jc P.E d) (a0++[s.f]) k s g m) (a0++[s.f]) s e' k x' L=⟨LB.m,LB.ut,L.fN.set k (nn:Int),L.fS⟩):=fh (by
     unfold lM;simp only;rw[Ro k4,Ro k7,ad.out,aG.out,aH.out,Ro k1,Ro k2,Rs k6];have h9:=EC P.E s k I m6 L.ut (L.fN.set k (nn:Int)) L.fS;rw[aw] at h9 |-
     rw[<-h9.1,<-h9.2])
    clear k1 k2 k4 k7 k6 aw;go_wp2_with(first | (go_at_call 212;(with_reducible refine(IB a5 hR.env hsc hml6 hvl aY hkI ai).mono ?_);rw[aO.out];rintro e9 w5 ⟨rfl,L5,aV⟩));clear r4 r7 r1 r2 r6;have hok9:=HOK2.out;have hst9:=HST2.out;have hg9:=hG2.out;rw[HHQ.out] at hok9 hst9 hg9;have hc9:=hst9.cnt;have hd9:=hst9.jp;simp only at hc9 hd9;have HCNT:max (LB.m).pi.length (200+iQ d)<=max m.pi.length (200+iQ d)+24*(k+1-(i'+1)):=tQ hc9 hck hik;have HDEP:(LB.m).jp=m.jp:=hd9.trans ((TF _).trans hdk);have HLVS:(LB.ut).length<=k+1-(i'+1):=tT hvk (by have h8:=Gb P.E s k I m6 L.ut (L.fN.set k (nn:Int)) L.fS;rw[aO.out] at h8;exact h8) hik;have HOK9:=fh hok9;have HG9:=fh hg9;clear hok9 hst9 hg9 hc9 hd9;go_roundw
    case measure=>(clear hn hfs hd hcnt hd0 hd1 hsc hchl hck hdk hxk hvk hxl hvl HCNT HDEP HLVS;simp[RS];try omega)
    case rel=>exact⟨k+1,(⟨LB.m,LB.ut,L.fN.set k (nn:Int),L.fS⟩:jk),Ae,ce,Se,L5,rfl,Ar,Tx hik,TD hle,fh (aV.drop (fun _ h=>by cases h)),HOK9,HDEP,HCNT,yr hxk hik,HLVS,HHK.out,HG9⟩
   have r6:(x'.li == 6)=I:=Rm.2 k6;obtain⟨ev,cN⟩:∃ v,iP P.E.p k=v:=⟨_,rfl⟩
   have dw : -1<=ev/\ev<=60:=by
    rcases wB P.E.p k with h | ⟨a,e2,h,h2,h3⟩
    ·omega
    ·have:=h3.len;omega
   have aN:=fh cN;have en:Rg Z (ev+1)=ev+1:=iw;have cK:fE (ev+1):=⟨K9,K9⟩
   have aJ:fE (m6.pi.length:Int):=⟨K9,K9⟩
   have h11:fE 11:=⟨K9,K9⟩
   have bn:=hR.up a5.mK;have z0:=a5.ir.1;clear cN;by_cases k3:x'.li=3
   ·have r3:(x'.li == 3)=M:=RQ.2 k3
    obtain⟨el,aI⟩:∃ v,kh P.E.p k=v:=⟨_,rfl⟩
    have du : -1<=el/\el<=60:=by
     rcases El P.E.p k with h | ⟨j,h,h2⟩
     ·omega
     ·have:=h2.lt;obtain⟨z,hz,_⟩:=h2.BM;have:=(Rd.1 hz).1;omega
    have cA:=fh aI;have dW:Rg Z (-el) = -el:=iw;by_cases hge:0<=el
    ·as_aux_lemma=>
     have bY:el≥0:=hge;have ao:fE (-el):=⟨K9,K9⟩
     have HHQ:Hid (lM P.E (fun g m=>jQ P.E (jc P.E d) (a0++[s.f]) k s g m) (a0++[s.f]) s e' k x' L=⟨(zI P.E m6 11 0 k s.io).gw (m6.jp-1),L.ut,L.fN.set k (nn:Int),L.fS++[(-el,(m6.pi.length:Int))]⟩):=fh (by
      unfold lM;simp only
      rw[Ro k4,Ro k7,ad.out,aG.out,aH.out,Ro k1,Ro k2,Ro k6,Rs ⟨k3,by rw[aI];exact hge⟩,aI])
     clear k1 k2 k3 k4 k6 k7 aI;go_upto_region 36 with(first | (go_at_call 160;(with_reducible refine(zbo (Ty.up _ bn gF) ab).mono ?_);rw[aN.out];rintro e9 e0 ⟨rfl,a9⟩;have b0:=za a9 b0;have z0:=za a9 z0) | (go_at_call 192;(with_reducible refine(zgW (Ty.up _ bn gF) ab).mono ?_);rw[cA.out];rintro e9 br ⟨rfl,ag⟩;have z0:=za ag z0;have a9:=fu.trans a9 ag));have hR7:=a5.fy a9;obtain⟨cy,cB,z10⟩:=hR7.sU;have hra:re.R br br.heap.size [J Z (-el),J Z (m6.pi.length:Int)] ((-el),(m6.pi.length:Int)):=⟨[J Z (-el)],[J Z (m6.pi.length:Int)],rfl,⟨rfl,ao.1,ao.2⟩,⟨rfl,aJ.1,aJ.2⟩⟩
     have zf7:=hR7.ir.2.2.2.2.2.2.2.2.2.1;go_upto_region 37 with(first | (at_builtin;refine zD (L:=L.fS.length+1) rfl (.tmp 203) (.tmp 211) DL Dx (hR7.ex.fy gF) hra rfl rfl rfl (by intro j u hu;simpa[go_sem] using hu) rfl K9 K9 ?_;intro A9 c9 w9 S9 hon hH9 hS9));have hR8:=gA.fS (xs:=L.fS++[(-el,(m6.pi.length:Int))]) (hR7.fy gF) hYW hTlt (gA.xL (hR7.fy gF)) hon (by rw[Rh];exact hH9) hS9;have hl9:(L.fS++[((-el),(m6.pi.length:Int))]).length=L.fS.length+1:=by rw[Rh];rfl
     have HL9:=fh hl9;clear hl9 hra zf7 b0 z10;go_wp2_with(first | (go_at_call 203;(with_reducible refine(yF hR8 hsc hml6 h11 h00 hkI hdI6).mono ?_);rintro e9 w10 ⟨rfl,L10,hR10⟩;have y9:Rb w10 ⟨P.g,9,C⟩=D (J Z m6.jp):=hR10.ir.2.2.2.2.2.2.2.1;have yf:=hR10.ir.2.2.2.2.2.2.2.2.2.1;have yl:=hR10.ir.2.2.2.2.2.2.2.2.2.2));obtain⟨L11,hR11⟩:=hR10.next (lv':=L.ut) ((gg.refl hR10.st).num (m':=(zI P.E m6 11 0 k s.io).gw (m6.jp-1)) (i:=9) (v:=J Z (m6.jp-1)) rfl (fun _ _ _ _ _ _ _ _ _=>rfl));rw[<-HL9.out];clear r4 r7 r1 r2 r6 r3;have hok9:=HOK2.out;have hst9:=HST2.out;have hg9:=hG2.out;rw[HHQ.out] at hok9 hst9 hg9;have hc9:=hst9.cnt;have hd9:=hst9.jp;simp only at hc9 hd9;have HCNT:max ((zI P.E m6 11 0 k s.io).gw (m6.jp-1)).pi.length (200+iQ d)<=max m.pi.length (200+iQ d)+24*(k+1-(i'+1)):=tQ hc9 hck hik;have HDEP:((zI P.E m6 11 0 k s.io).gw (m6.jp-1)).jp=m.jp:=hd9.trans ((TF _).trans hdk);have HLVS:(L.ut).length<=k+1-(i'+1):=tT hvk (UO _) hik;have HOK9:=fh hok9;have HG9:=fh hg9;clear hok9 hst9 hg9 hc9 hd9;go_roundw
     case measure=>(clear hn hfs hd hcnt hd0 hd1 hsc hchl hck hdk hxk hvk hxl hvl HCNT HDEP HLVS;simp[RS];try omega)
     case rel=>exact⟨k+1,(⟨(zI P.E m6 11 0 k s.io).gw (m6.jp-1),L.ut,L.fN.set k (nn:Int),L.fS++[((-el),(m6.pi.length:Int))]⟩:jk),A9,c9,S9,L11,rfl,Ar,Tx hik,TD hle,fh (hR11.drop (fun _ h=>by cases h)),HOK9,HDEP,HCNT,F1 hxk hik,HLVS,HHK.out,HG9⟩
    ·as_aux_lemma=>
     have bY:¬ (el≥0):=hge;have ao:=cK
     have HHQ:Hid (lM P.E (fun g m=>jQ P.E (jc P.E d) (a0++[s.f]) k s g m) (a0++[s.f]) s e' k x' L=⟨(zI P.E m6 11 0 k s.io).gw (m6.jp-1),L.ut,L.fN.set k (nn:Int),L.fS++[(ev+1,(m6.pi.length:Int))]⟩):=fh (by
      unfold lM;simp only
      rw[Ro k4,Ro k7,ad.out,aG.out,aH.out,Ro k1,Ro k2,Ro k6,Ro (fun h=>hge (by rw[<-aI];exact h.2)),aN.out])
     clear k1 k2 k3 k4 k6 k7 aI;go_upto_region 36 with(first | (go_at_call 160;(with_reducible refine(zbo (Ty.up _ bn gF) ab).mono ?_);rw[aN.out];rintro e9 e0 ⟨rfl,a9⟩;have b0:=za a9 b0;have z0:=za a9 z0) | (go_at_call 192;(with_reducible refine(zgW (Ty.up _ bn gF) ab).mono ?_);rw[cA.out];rintro e9 br ⟨rfl,ag⟩;have z0:=za ag z0;have a9:=fu.trans a9 ag));have hR7:=a5.fy a9;obtain⟨cy,cB,z10⟩:=hR7.sU;have hra:re.R br br.heap.size [J Z (ev+1),J Z (m6.pi.length:Int)] ((ev+1),(m6.pi.length:Int)):=⟨[J Z (ev+1)],[J Z (m6.pi.length:Int)],rfl,⟨rfl,ao.1,ao.2⟩,⟨rfl,aJ.1,aJ.2⟩⟩
     exact WV
   as_aux_lemma=>
   have r3:(x'.li == 3)=I:=Rm.2 k3
   have HHQ:Hid (lM P.E (fun g m=>jQ P.E (jc P.E d) (a0++[s.f]) k s g m) (a0++[s.f]) s e' k x' L=⟨(zI P.E m6 11 0 k s.io).gw (m6.jp-1),L.ut,L.fN.set k (nn:Int),L.fS++[(ev+1,(m6.pi.length:Int))]⟩):=fh (by
    unfold lM;simp only
    rw[Ro k4,Ro k7,ad.out,aG.out,aH.out,Ro k1,Ro k2,Ro k6,Ro (fun h=>k3 h.1),aN.out])
   clear k1 k2 k3 k4 k6 k7;go_upto_region 36 with(first | (go_at_call 160;(with_reducible refine(zbo (Ty.up _ bn gF) ab).mono ?_);rw[aN.out];rintro e9 w7 ⟨rfl,cQ⟩;have b0:=za cQ b0));have hR7:=a5.fy cQ;obtain⟨cy,cB,z10⟩:=hR7.sU;have ao:=cK;have hra:re.R w7 w7.heap.size [J Z (ev+1),J Z (m6.pi.length:Int)] ((ev+1),(m6.pi.length:Int)):=⟨[J Z (ev+1)],[J Z (m6.pi.length:Int)],rfl,⟨rfl,ao.1,ao.2⟩,⟨rfl,aJ.1,aJ.2⟩⟩
   exact WV
  ·obtain rfl:k=e'+1:=K9
   have ei:¬ (((e'+1:Nat):Int)<=(e':Int)):=K9;have dG:¬ ((e':Int)+1<=(e':Int)):=K9;have HL:Hid (L=LF):=fh (by have h9:=hG.out;rw[St] at h9;rw[<-h9];cases P.E.p.drop (e'+1) <;> rfl);go_wp2_with(fail);exact RI (v:=.tuple #[]) (by simp[Rv,results204,go_sem]) rfl ⟨rfl,by rw[da.out,<-HL.out];exact⟨L',a6.out.st,a6.out.on,a6.out.nw⟩⟩
end Go.Proofs.YthgbglbaemelhaaGreat
