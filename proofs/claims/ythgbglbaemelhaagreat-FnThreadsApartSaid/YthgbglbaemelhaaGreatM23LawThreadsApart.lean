/-
  PART.
-/
import Derived.Test.YthgbglbaemelhaaGreatM22LawThreadsApart
set_option linter.unusedVariables false
set_option linter.unusedSimpArgs false
set_option maxRecDepth 100000
set_option maxHeartbeats 8000000
namespace Go.Proofs.YthgbglbaemelhaaGreat
open Value renaming slice->G,int->J,bool->H
open IntKind renaming i64->Z
open Option renaming none->C,some->D
open Obj renaming cells->F
open Bool renaming false->I,true->M
open Go renaming World->U,results->Rv,Calls->RD,Addr->RJ,yielded->Th
open World renaming cell?->Rb,frozen?->Rx
open _root_.Int renaming toNat_natCast->Ry
open List renaming take_succ_cons->RZ,take_zero->SH
open RowKit renaming wrap64->SN
open Region renaming wanted->RV,ready->Sn,noSelect->TZ,Mode->Ub,free->Wu
open Tryz
open Go.RowKit
variable {A0 A1 A2:X RJ}{B:Q (Nat × Obj)}{Ra c0 c1 c2 gc n n0 n1:Nat}{W Y:U}{arg:Int}{es:Q Int}{m m0:fv}
theorem nA (h:ie B Y W Ra gc I m)(cs ct:Array Value):∃(gs:Nat)(BB:Q (Nat × Obj))(W1:U),W.heap.size=gs/\(W.alloc (F cs 28)).alloc (F ct 142)=W1/\Hid (ie BB Y W1 Ra gc I m)/\Hid (∀ p∈B,p∈BB)/\(gs+1,F ct 142 (0,0))∈BB/\(gs,F cs 28 (0,0))∈BB:=by
 exact ve
theorem ie.pf {BB:Q (Nat × Obj)} {gs:Nat} {bad:Bool} {a b d e f:Value} (h:ie BB Y W Ra gc bad m)(ho:(gs+1,F #[a,b] 142 (0,0))∈BB)(hs:(gs,F #[d,e,f] 28 (0,0))∈BB):∃ A c Ao co,
  Rb W ⟨gc,0,C⟩=D (J Z m.Pc)/\Rb W ⟨gc,1,C⟩=D (J Z m.Sp)/\Rb W ⟨gc,2,C⟩=D (J Z m.Fp)/\Rb W ⟨gc,3,C⟩=D (G A m.pm.length c)/\Rb W ⟨gc,4,C⟩=D (G Ao m.If.length co)/\Rb W ⟨gc,5,C⟩=D (J Z m.rc)/\Rb W ⟨gc,6,C⟩=D (J Z m.Value)/\Rb W ⟨gc,7,C⟩=D (H bad)/\(∀ j,Rx W ⟨gc,j,C⟩=I)/\gc<W.heap.size/\kX Ra m/\
  Rb W ⟨gs+1,0,C⟩=D a/\Rb W ⟨gs+1,1,C⟩=D b/\Rx W ⟨gs+1,0,C⟩=I/\Rx W ⟨gs+1,1,C⟩=I/\gs+1<W.heap.size/\
  Rb W ⟨gs,0,C⟩=D d/\Rb W ⟨gs,1,C⟩=D e/\Rb W ⟨gs,2,C⟩=D f/\(∀ j,Rx W ⟨gs,j,C⟩=I)/\gs<W.heap.size:=by
 obtain⟨A,c,Ao,co,z0,z1,z2,z3,z4,z5,z6,z7,zf,zl,hk⟩:=h.cells;obtain⟨p0,p1,a0,a1,pl⟩:=jT (h.kept ho);exact⟨A,c,Ao,co,z0,z1,z2,z3,z4,z5,z6,z7,zf,zl,hk,p0,p1,a0,a1,pl,iS (h.kept hs)⟩
theorem pC {q g:Prop} (hq:q)(f:g:=by
 obtain⟨gs,BB,W1,a7,a6,H9,HS,a8,a9⟩:=id kc;obtain⟨a5,a1⟩:∃ v,m.Sp=v:=⟨_,rfl⟩
 have aa:SN (m.Pc+(n:Int))=m.Pc+(n:Int):=qC K9 K9;have a0:fE (m.Pc+(n:Int)):=⟨K9,K9⟩
 go_enter func85,ntmps85;go_upto_region 1 with(fail);clear a6 a7;obtain⟨A,c,Ao,co,z0,z1,z2,z3,z4,z5,z6,z7,zf,zl,hk,p0,p1,ab,ac,pl,q0,q1,q2,qf,ql⟩:=H9.out.pf a8 a9;go_upto_region 3 with(fail);have a2:=H9.out.num (i:=0) (v:=J Z (m.Pc+(n:Int))) (bad':=I) (m':={ m with Pc:=m.Pc+(n:Int) }) rfl rfl ⟨hk.len,hk.out,a0,hk.sp,hk.fp,hk.st,hk.va⟩ (fun _ _=>rfl);have a3 : -4611686018427387904<=({ m with Pc:=m.Pc+(n:Int) }:fv).Pc/\({ m with Pc:=m.Pc+(n:Int) }:fv).Pc<=4611686018427387904:=⟨by show _<=m.Pc+(n:Int);omega,by show m.Pc+(n:Int)<=_;omega⟩
 have a4:({ m with Pc:=m.Pc+(n:Int) }:fv).Sp=a5:=a1;rw[hm0] at a2 a3 a4;generalize W1.setCell _ _=w0 at a2 |-;have HB:=fh a3;have ad:=fh a4;clear a1 aa a0 a3 a4 H9 hk;have H0:=fh a2;clear a2;clear z0 z1 z2 z3 z4 z5 z6 z7 zf zl p0 p1 ab ac pl q0 q1 q2 qf ql;clear W1 A c Ao co;rename_i Q0 K0 hK0;revert gs BB a5 Q0 K0 w0 HB
 exact ?zk):g:=f
theorem zrj (h:ie B Y W Ra gc I m)(hm0:({ m with Pc:=m.Pc+(n:Int) }:fv)=m0)(hp : -1152921504606846976<=m.Pc/\m.Pc<=1152921504606846976)(hn:n<=5)(ha:fE arg) :
  RD prog 85 #[.agg #[G A0 n0 c0,G A1 n1 c1,G A2 es.length c2],.pointer (D ⟨gc,0,C⟩),.agg #[J Z 0,J Z arg],J Z n] W (iE (fun m=>zA es m 0 arg) B Y Ra gc I m0):=by
 have kc:=nA h #[G A0 n0 c0,G A1 n1 c1,G A2 es.length c2] #[J Z 0,J Z arg];refine pC ?zk;intro gs BB HS a2 a3 a8 Q0 K0 a5 w0 HB a4 H0;clear h kc hp hn;obtain⟨A,c,Ao,co,z0,z1,z2,z3,z4,z5,z6,z7,zf,zl,hk,p0,p1,a6,a7,pl,q0,q1,q2,qf,ql⟩:=H0.out.pf a2 a3;go_wp2_with(go_at_call 136;(with_reducible refine(zeq H0.out ha).mono ?_);rintro e w1 ⟨rfl,b1,m1,a0,a1⟩);exact RI (v:=.tuple #[]) (by simp[Rv,results85,go_sem]) rfl ⟨rfl,_,_,(a0).drop HS.out,a1⟩
theorem zrk (h:ie B Y W Ra gc I m)(hm0:({ m with Pc:=m.Pc+(n:Int) }:fv)=m0)(hp : -1152921504606846976<=m.Pc/\m.Pc<=1152921504606846976)(hn:n<=5)(ha : -32768<=arg/\arg<=32767) :
  RD prog 85 #[.agg #[G A0 n0 c0,G A1 n1 c1,G A2 es.length c2],.pointer (D ⟨gc,0,C⟩),.agg #[J Z 1,J Z arg],J Z n] W (iE (fun m=>zA es m 1 arg) B Y Ra gc I m0):=by
 have kc:=nA h #[G A0 n0 c0,G A1 n1 c1,G A2 es.length c2] #[J Z 1,J Z arg];refine pC ?zk;intro gs BB HS a2 a8 ag Q0 K0 ad w0 HB ac H0;clear h kc hp hn;obtain⟨A,c,Ao,co,z0,z1,z2,z3,z4,z5,z6,z7,zf,zl,hk,p0,p1,ae,af,pl,q0,q1,q2,qf,ql⟩:=H0.out.pf a2 a8;go_upto_region 10 with(fail);refine zX (fun w'=>Rb w' ⟨gc,2,C⟩=D (J Z m0.Fp)/\Rb w' ⟨gs+1,1,C⟩=D (J Z arg)) 11 Fs (Rf (zc z2) (zc p1)) (fun hH=>?_);have hX:=H0.out.fy ((fu.refl w0).drew);generalize w0.drew=wx at hX hH |-;have HX:=fh hX;clear hX;obtain⟨a1,a4⟩:=hH;have hH:=Rf a1 a4;refine .tq 0 [11] hH ?_;refine .tq 1 [10,11] hH ?_;refine .tq 2 [3,4,5,6,9,10,11] hH ?_;refine .tq 3 [4,5,6,9,10,11] hH ?_;refine .tq 4 [5,6,9,10,11] hH ?_;refine .tq 5 [6,9,10,11] hH ?_;refine .tq 6 [9,10,11] hH ?_;refine .tq 7 [8,9,10,11] hH ?_;refine .tq 8 [9,10,11] hH ?_;refine fA.gL (i:=9) Fs rfl (fun K hK=>?_);go_simp;go_at_call 137;refine(IG m0.Fp arg wx ha).mono ?_;rintro e w1 ⟨rfl,rfl⟩;refine hK.out _ _ hH ?_;clear hK
 try simp only[lay]
 refine fA.gL (i:=10) Fs rfl (fun K hK=>?_);go_simp;go_at_call 86;refine(zor HX.out).mono ?_;rintro e w2 ⟨⟨v2,a9,rfl,a0,a6⟩,a5⟩;have aa:=a5 2 _ K9 K9 a1;have ab:=(jT (a0.kept a2)).2.1;refine hK.out _ _ (Rf aa ab) ?_;clear hK
 try simp only[lay]
 refine fA.last Fs rfl Fs (fun K hK=>?_);go_simp;go_at_call 136;refine(zeq a0 a9).mono ?_;rintro e w3 ⟨rfl,b3,m3,a3,a7⟩;refine hK.out _ _ ?_;clear hK
 try simp only[lay]
 go_wp2_with(fail);exact RI (v:=.tuple #[]) (by simp[Rv,results85,go_sem]) rfl ⟨rfl,_,_,(a3).drop HS.out,by rw[Ic a6 a7];show (ll m0 _).bind _=_;rw[OQ ha];rfl⟩
theorem zrm (h:ie B Y W Ra gc I m)(hm0:({ m with Pc:=m.Pc+(n:Int) }:fv)=m0)(hp : -1152921504606846976<=m.Pc/\m.Pc<=1152921504606846976)(hn:n<=5)(ha : -32768<=arg/\arg<=32767) :
  RD prog 85 #[.agg #[G A0 n0 c0,G A1 n1 c1,G A2 es.length c2],.pointer (D ⟨gc,0,C⟩),.agg #[J Z 3,J Z arg],J Z n] W (iE (fun m=>zA es m 3 arg) B Y Ra gc I m0):=by
 have kc:=nA h #[G A0 n0 c0,G A1 n1 c1,G A2 es.length c2] #[J Z 3,J Z arg];refine pC ?zk;intro gs BB HS a6 a7 ac Q0 K0 a9 w0 HB a0 H0;clear h kc hp hn;obtain⟨A,c,Ao,co,z0,z1,z2,z3,z4,z5,z6,z7,zf,zl,hk,p0,p1,aa,ab,pl,q0,q1,q2,qf,ql⟩:=H0.out.pf a6 a7;have a1:=hk.sp;rw[a0.out] at a1;go_wp2_with(first | (go_at_call 86;(with_reducible refine(Jb H0.out).mono ?_);rintro e w2 ⟨v2,a8,rfl,a2,a4⟩) | (go_at_call 136;(with_reducible refine(zeq a2 a8).mono ?_);rintro e w3 ⟨rfl,b3,m3,a3,a5⟩));exact RI (v:=.tuple #[]) (by simp[Rv,results85,go_sem]) rfl ⟨rfl,_,_,(a3).drop HS.out,by rw[Ic a4 a5];show (ll m0 _).bind _=(ll m0 (m0.Sp+arg)).bind _;rw[Dd a1 ha,a0.out]⟩
theorem zrl (h:ie B Y W Ra gc I m)(hm0:({ m with Pc:=m.Pc+(n:Int) }:fv)=m0)(hp : -1152921504606846976<=m.Pc/\m.Pc<=1152921504606846976)(hn:n<=5)(ha : -32768<=arg/\arg<=32767) :
  RD prog 85 #[.agg #[G A0 n0 c0,G A1 n1 c1,G A2 es.length c2],.pointer (D ⟨gc,0,C⟩),.agg #[J Z 2,J Z arg],J Z n] W (iE (fun m=>zA es m 2 arg) B Y Ra gc I m0):=by
 have kc:=nA h #[G A0 n0 c0,G A1 n1 c1,G A2 es.length c2] #[J Z 2,J Z arg];refine pC ?zk;intro gs BB HS a2 a8 ag Q0 K0 ad w0 HB ac H0;clear h kc hp hn;obtain⟨A,c,Ao,co,z0,z1,z2,z3,z4,z5,z6,z7,zf,zl,hk,p0,p1,ae,af,pl,q0,q1,q2,qf,ql⟩:=H0.out.pf a2 a8;go_upto_region 14 with(fail);refine zX (fun w'=>Rb w' ⟨gc,2,C⟩=D (J Z m0.Fp)/\Rb w' ⟨gs+1,1,C⟩=D (J Z arg)) 11 Fs (Rf (zc z2) (zc p1)) (fun hH=>?_);have hX:=H0.out.fy ((fu.refl w0).drew);generalize w0.drew=wx at hX hH |-;have HX:=fh hX;clear hX;obtain⟨a1,a4⟩:=hH;have hH:=Rf a1 a4;refine .tq 0 [11] hH ?_;refine .tq 1 [2,3,4,5,8,10,11] hH ?_;refine .tq 2 [3,4,5,8,10,11] hH ?_;refine .tq 3 [4,5,8,10,11] hH ?_;refine .tq 4 [5,8,10,11] hH ?_;refine .tq 5 [8,10,11] hH ?_;refine .tq 6 [7,8,10,11] hH ?_;refine .tq 7 [8,10,11] hH ?_;refine .tq 9 [10,11] hH ?_;refine fA.gL (i:=8) Fs rfl (fun K hK=>?_);go_simp;go_at_call 137;refine(IG m0.Fp arg wx ha).mono ?_;rintro e w1 ⟨rfl,rfl⟩;refine hK.out _ _ hH ?_;clear hK
 try simp only[lay]
 refine fA.gL (i:=10) Fs rfl (fun K hK=>?_);go_simp;go_at_call 139;refine(zn9 HX.out).mono ?_;rintro e w2 ⟨⟨v1,b1,m1,a9,rfl,a0,a6⟩,a5⟩;have aa:=a5 2 _ K9 K9 a1;have ab:=(jT (a0.kept a2)).2.1;refine hK.out _ _ (Rf aa ab) ?_;clear hK
 try simp only[lay]
 refine fA.last Fs rfl Fs (fun K hK=>?_);go_simp;go_at_call 138;refine(zw2 a0 a9).mono ?_;rintro e w3 ⟨rfl,b3,m3,a3,a7⟩;refine hK.out _ _ ?_;clear hK
 try simp only[lay]
 go_wp2_with(fail);exact RI (v:=.tuple #[]) (by simp[Rv,results85,go_sem]) rfl ⟨rfl,_,_,(a3).drop HS.out,by rw[a7,<-oO (K:=fun p=>ld p.1 (rN m0.Fp arg) p.2) a6];show (gX m0).bind _=(gX m0).bind _;simp only[M5 ha]⟩
theorem zrn (h:ie B Y W Ra gc I m)(hm0:({ m with Pc:=m.Pc+(n:Int) }:fv)=m0)(hp : -1152921504606846976<=m.Pc/\m.Pc<=1152921504606846976)(hn:n<=5)(ha : -32768<=arg/\arg<=32767) :
  RD prog 85 #[.agg #[G A0 n0 c0,G A1 n1 c1,G A2 es.length c2],.pointer (D ⟨gc,0,C⟩),.agg #[J Z 4,J Z arg],J Z n] W (iE (fun m=>zA es m 4 arg) B Y Ra gc I m0):=by
 have kc:=nA h #[G A0 n0 c0,G A1 n1 c1,G A2 es.length c2] #[J Z 4,J Z arg];refine pC ?zk;intro gs BB HS a2 a7 aa Q0 K0 ab w0 HB a0 H0;clear h kc hp hn;obtain⟨A,c,Ao,co,z0,z1,z2,z3,z4,z5,z6,z7,zf,zl,hk,p0,p1,ad,ae,pl,q0,q1,q2,qf,ql⟩:=H0.out.pf a2 a7;have a3:=hk.sp;rw[a0.out] at a3;go_upto_region 16 with(fail);refine zX (fun w'=>Rb w' ⟨gs+1,1,C⟩=D (J Z arg)) 7 Fs (zc p1) (fun hH=>?_);have hX:=H0.out.fy ((fu.refl w0).drew);generalize w0.drew=wx at hX hH |-;have HX:=fh hX;clear hX;refine .tq 0 [7] hH ?_;refine .tq 1 [4,7] hH ?_;refine .tq 2 [3,4,7] hH ?_;refine .tq 3 [4,7] hH ?_;refine .tq 4 [7] hH ?_;refine .tq 5 [6,7] hH ?_;refine fA.gL (i:=6) Fs rfl (fun K hK=>?_);go_simp;go_at_call 139;refine(zn9 HX.out).mono ?_;rintro e w2 ⟨⟨v1,b1,m1,a8,rfl,a1,a5⟩,ac⟩;have a9:=(jT (a1.kept a2)).2.1;refine hK.out _ _ a9 ?_;clear hK
 try simp only[lay]
 refine fA.last Fs rfl Fs (fun K hK=>?_);go_simp;go_at_call 138;refine(zw2 a1 a8).mono ?_;rintro e w3 ⟨rfl,b3,m3,a4,a6⟩;refine hK.out _ _ ?_;clear hK
 try simp only[lay]
 go_wp2_with(fail);exact RI (v:=.tuple #[]) (by simp[Rv,results85,go_sem]) rfl ⟨rfl,_,_,(a4).drop HS.out,by rw[a6,IntWalk.i64_left,<-oO (K:=fun p=>ld p.1 (SN (aa+arg)) p.2) a5];show (gX m0).bind _=(gX m0).bind fun p=>ld p.1 (m0.Sp+arg) p.2;simp only[CN a3 ha,a0.out]⟩
theorem WG {g:Prop} (f:g:=by
  refine pC ?zk
  intro gs BB HS hop hsp spv Q0 K0 hK0 w0 HB HSP H0
  clear h kc hp hn
  obtain⟨A,c,Ao,co,z0,z1,z2,z3,z4,z5,z6,z7,zf,zl,hk,p0,p1,pf0,pf1,pl,q0,q1,q2,qf,ql⟩:=H0.out.pf hop hsp
  go_upto_region 5 with(go_at_call 139;(with_reducible refine(tu H0.out).mono ?_);rintro e w1 ⟨v1,b1,m1,hv1,rfl,hC1,ho1⟩)
  have H1:=fh hC1
  clear hC1
  clear z0 z1 z2 z3 z4 z5 z6 z7 zf zl p0 p1 pf0 pf1 pl q0 q1 q2 qf ql
  obtain⟨A,c,Ao,co,z0,z1,z2,z3,z4,z5,z6,z7,zf,zl,hk,p0,p1,pf0,pf1,pl,q0,q1,q2,qf,ql⟩:=H1.out.pf hop hsp
  go_upto_region 6 with(go_at_call 139;(with_reducible refine(tu H1.out).mono ?_);rintro e w2 ⟨v2,b2,m2,hv2,rfl,hC2,ho2⟩)
  have H2:=fh hC2
  clear hC2
  clear z0 z1 z2 z3 z4 z5 z6 z7 zf zl p0 p1 pf0 pf1 pl q0 q1 q2 qf ql
  obtain⟨A,c,Ao,co,z0,z1,z2,z3,z4,z5,z6,z7,zf,zl,hk,p0,p1,pf0,pf1,pl,q0,q1,q2,qf,ql⟩:=H2.out.pf hop hsp
  go_wp2_with(first | (go_at_call 142;(with_reducible refine(zfQ (k:=_) (a:=v2) (b:=v1) K9 hv2 hv1).mono ?_);rintro e w3 ⟨rfl,rfl⟩) | (go_at_call 136;(with_reducible refine(zeq H2.out (DQ _ v2 v1)).mono ?_);rintro e w4 ⟨rfl,b4,m4,hC4,ho4⟩))
  exact RI (v:=.tuple #[]) (by simp[Rv,results85,go_sem]) rfl ⟨rfl,_,_,(hC4).drop HS.out,by rw[Eb K9,oO (K:=fun p=>(gX p.1).bind fun q=>zP q.1 (zO _ q.2 p.2)) ho1,oO (K:=fun q=>zP q.1 (zO _ q.2 v1)) ho2];exact ho4⟩):g:=f
theorem zro (h:ie B Y W Ra gc I m)(hm0:({ m with Pc:=m.Pc+(n:Int) }:fv)=m0)(hp : -1152921504606846976<=m.Pc/\m.Pc<=1152921504606846976)(hn:n<=5) :
  RD prog 85 #[.agg #[G A0 n0 c0,G A1 n1 c1,G A2 es.length c2],.pointer (D ⟨gc,0,C⟩),.agg #[J Z 5,J Z arg],J Z n] W (iE (fun m=>zA es m 5 arg) B Y Ra gc I m0):=by
 have kc:=nA h #[G A0 n0 c0,G A1 n1 c1,G A2 es.length c2] #[J Z 5,J Z arg];exact WG
theorem zrp (h:ie B Y W Ra gc I m)(hm0:({ m with Pc:=m.Pc+(n:Int) }:fv)=m0)(hp : -1152921504606846976<=m.Pc/\m.Pc<=1152921504606846976)(hn:n<=5) :
  RD prog 85 #[.agg #[G A0 n0 c0,G A1 n1 c1,G A2 es.length c2],.pointer (D ⟨gc,0,C⟩),.agg #[J Z 6,J Z arg],J Z n] W (iE (fun m=>zA es m 6 arg) B Y Ra gc I m0):=by
 have kc:=nA h #[G A0 n0 c0,G A1 n1 c1,G A2 es.length c2] #[J Z 6,J Z arg];exact WG
theorem zrq (h:ie B Y W Ra gc I m)(hm0:({ m with Pc:=m.Pc+(n:Int) }:fv)=m0)(hp : -1152921504606846976<=m.Pc/\m.Pc<=1152921504606846976)(hn:n<=5) :
  RD prog 85 #[.agg #[G A0 n0 c0,G A1 n1 c1,G A2 es.length c2],.pointer (D ⟨gc,0,C⟩),.agg #[J Z 7,J Z arg],J Z n] W (iE (fun m=>zA es m 7 arg) B Y Ra gc I m0):=by
 have kc:=nA h #[G A0 n0 c0,G A1 n1 c1,G A2 es.length c2] #[J Z 7,J Z arg];exact WG
theorem zrr (h:ie B Y W Ra gc I m)(hm0:({ m with Pc:=m.Pc+(n:Int) }:fv)=m0)(hp : -1152921504606846976<=m.Pc/\m.Pc<=1152921504606846976)(hn:n<=5) :
  RD prog 85 #[.agg #[G A0 n0 c0,G A1 n1 c1,G A2 es.length c2],.pointer (D ⟨gc,0,C⟩),.agg #[J Z 8,J Z arg],J Z n] W (iE (fun m=>zA es m 8 arg) B Y Ra gc I m0):=by
 have kc:=nA h #[G A0 n0 c0,G A1 n1 c1,G A2 es.length c2] #[J Z 8,J Z arg];exact WG
theorem zrs (h:ie B Y W Ra gc I m)(hm0:({ m with Pc:=m.Pc+(n:Int) }:fv)=m0)(hp : -1152921504606846976<=m.Pc/\m.Pc<=1152921504606846976)(hn:n<=5) :
  RD prog 85 #[.agg #[G A0 n0 c0,G A1 n1 c1,G A2 es.length c2],.pointer (D ⟨gc,0,C⟩),.agg #[J Z 9,J Z arg],J Z n] W (iE (fun m=>zA es m 9 arg) B Y Ra gc I m0):=by
 have kc:=nA h #[G A0 n0 c0,G A1 n1 c1,G A2 es.length c2] #[J Z 9,J Z arg];exact WG
theorem zpK (h:ie B Y W Ra gc I m)(hm0:({ m with Pc:=m.Pc+(n:Int) }:fv)=m0)(hp : -1152921504606846976<=m.Pc/\m.Pc<=1152921504606846976)(hn:n<=5)(ha : -32768<=arg/\arg<=32767) :
  RD prog 85 #[.agg #[G A0 n0 c0,G A1 n1 c1,G A2 es.length c2],.pointer (D ⟨gc,0,C⟩),.agg #[J Z 10,J Z arg],J Z n] W (iE (fun m=>zA es m 10 arg) B Y Ra gc I m0):=by
 have kc:=nA h #[G A0 n0 c0,G A1 n1 c1,G A2 es.length c2] #[J Z 10,J Z arg];refine pC ?zk;intro gs BB HS a0 a1 a9 Q0 K0 a6 w0 HB a5 H0;clear h kc hp hn;obtain⟨A,c,Ao,co,z0,z1,z2,z3,z4,z5,z6,z7,zf,zl,hk,p0,p1,a2,a3,pl,q0,q1,q2,qf,ql⟩:=H0.out.pf a0 a1;go_upto_region 18 with(fail);refine sX 12 Fs Fs (fun wx hgx=>?_);have HX:=fh (H0.out.fy hgx);clear z0 z1 z2 z3 z4 z5 z6 z7 zf zl p0 p1 a2 a3 pl q0 q1 q2 qf ql;obtain⟨A,c,Ao,co,z0,z1,z2,z3,z4,z5,z6,z7,zf,zl,hk,p0,p1,a2,a3,pl,q0,q1,q2,qf,ql⟩:=HX.out.pf a0 a1;simp only[RZ,SH,Sm,Sx]
 repeat still_step
 refine Tj ?_;have a7:=HB.out;have a8:SN (m0.Pc+arg)=m0.Pc+arg:=qC K9 K9;go_wp2_with(fail);have a4:=HX.out.num (i:=0) (v:=J Z (m0.Pc+arg)) (bad':=I) (m':={ m0 with Pc:=m0.Pc+arg }) rfl rfl ⟨hk.len,hk.out,⟨by show _<=m0.Pc+arg;omega,by show m0.Pc+arg<=_;omega⟩,hk.sp,hk.fp,hk.st,hk.va⟩ (fun _ _=>rfl);exact RI (v:=.tuple #[]) (by simp[Rv,results85,go_sem]) rfl ⟨rfl,_,_,(a4.fy gG).drop HS.out,rfl⟩
theorem zpL (h:ie B Y W Ra gc I m)(hm0:({ m with Pc:=m.Pc+(n:Int) }:fv)=m0)(hp : -1152921504606846976<=m.Pc/\m.Pc<=1152921504606846976)(hn:n<=5)(ha : -32768<=arg/\arg<=32767) :
  RD prog 85 #[.agg #[G A0 n0 c0,G A1 n1 c1,G A2 es.length c2],.pointer (D ⟨gc,0,C⟩),.agg #[J Z 11,J Z arg],J Z n] W (iE (fun m=>zA es m 11 arg) B Y Ra gc I m0):=by
 have kc:=nA h #[G A0 n0 c0,G A1 n1 c1,G A2 es.length c2] #[J Z 11,J Z arg];refine pC ?zk;intro gs BB HS a2 a3 aa Q0 K0 a8 w0 HB a7 H0;clear h kc hp hn;obtain⟨A,c,Ao,co,z0,z1,z2,z3,z4,z5,z6,z7,zf,zl,hk,p0,p1,a0,a1,pl,q0,q1,q2,qf,ql⟩:=H0.out.pf a2 a3;go_upto_if 116 with(go_at_call 139;(with_reducible refine(tu H0.out).mono ?_);rintro e w1 ⟨v1,b1,m1,a9,rfl,a4,a5⟩)
 have H1:=fh a4;clear a4;clear z0 z1 z2 z3 z4 z5 z6 z7 zf zl p0 p1 a0 a1 pl q0 q1 q2 qf ql;obtain⟨A,c,Ao,co,z0,z1,z2,z3,z4,z5,z6,z7,zf,zl,hk,p0,p1,a0,a1,pl,q0,q1,q2,qf,ql⟩:=H1.out.pf a2 a3;by_cases hz:v1=0
 ·subst hz
  go_upto_region 21 with(fail);refine sX 12 Fs Fs (fun wx hgx=>?_);have HX:=fh (H1.out.fy hgx);clear z0 z1 z2 z3 z4 z5 z6 z7 zf zl p0 p1 a0 a1 pl q0 q1 q2 qf ql;obtain⟨A,c,Ao,co,z0,z1,z2,z3,z4,z5,z6,z7,zf,zl,hk,p0,p1,a0,a1,pl,q0,q1,q2,qf,ql⟩:=HX.out.pf a2 a3;simp only[RZ,SH,Sm,Sx]
  repeat still_step
  refine Tj ?_;go_wp2_with(fail);have a6:=HX.out.num (i:=0) (v:=J Z (SN (m1.Pc+arg))) (bad':=b1) (m':={ m1 with Pc:=SN (m1.Pc+arg) }) rfl rfl ⟨hk.len,hk.out,Ie (m1.Pc+arg),hk.sp,hk.fp,hk.st,hk.va⟩ (fun _ _=>rfl);exact RI (v:=.tuple #[]) (by simp[Rv,results85,go_sem]) rfl ⟨rfl,_,_,(a6.fy gG).drop HS.out,Ig a5 HB.out ha⟩
 ·go_wp2_with(fail)
  exact RI (v:=.tuple #[]) (by simp[Rv,results85,go_sem]) rfl ⟨rfl,_,_,(H1.out).drop HS.out,I0 a5 hz⟩
theorem zpM (h:ie B Y W Ra gc I m)(hm0:({ m with Pc:=m.Pc+(n:Int) }:fv)=m0)(hp : -1152921504606846976<=m.Pc/\m.Pc<=1152921504606846976)(hn:n<=5)(he:(zr.sl 3).R Y Y.heap.size [G A2 es.length c2] es)(hes:es.length<=9223372036854775807)(ha:0<=arg/\arg<=255) :
  RD prog 85 #[.agg #[G A0 n0 c0,G A1 n1 c1,G A2 es.length c2],.pointer (D ⟨gc,0,C⟩),.agg #[J Z 12,J Z arg],J Z n] W (iE (fun m=>zA es m 12 arg) B Y Ra gc I m0):=by
 have kc:=nA h #[G A0 n0 c0,G A1 n1 c1,G A2 es.length c2] #[J Z 12,J Z arg];refine pC ?zk;intro gs BB HS a2 a3 ah Q0 K0 af w0 HB ae H0;clear h kc hp hn;obtain⟨A,c,Ao,co,z0,z1,z2,z3,z4,z5,z6,z7,zf,zl,hk,p0,p1,a4,a5,pl,q0,q1,q2,qf,ql⟩:=H0.out.pf a2 a3;have ab:=hk.pc;by_cases hlt:arg<(es.length:Int)
 ·have a9:¬ ((es.length:Int)<=arg):=K9
  go_upto_region 26 with(go_at_call 136;(with_reducible refine(zeq H0.out ab).mono ?_);rintro e w1 ⟨rfl,b1,m1,a1,aa⟩);have H1:=fh a1;clear a1;clear z0 z1 z2 z3 z4 z5 z6 z7 zf zl p0 p1 a4 a5 pl q0 q1 q2 qf ql;obtain⟨A,c,Ao,co,z0,z1,z2,z3,z4,z5,z6,z7,zf,zl,hk,p0,p1,a4,a5,pl,q0,q1,q2,qf,ql⟩:=H1.out.pf a2 a3;have a8:=Ty.up _ he H1.out.grow;obtain⟨a,rfl⟩:=RE ha.1;obtain⟨ge,ad,x,rfl,ac,ag,a6,a7⟩:=lJ a8 (k:=a) K9;go_wp2_with(fail);have a0:=H1.out.num (i:=0) (v:=J Z x) (bad':=b1) (m':={ m1 with Pc:=x }) rfl rfl ⟨hk.len,hk.out,⟨a6,a7⟩,hk.sp,hk.fp,hk.st,hk.va⟩ (fun _ _=>rfl);exact RI (v:=.tuple #[]) (by simp[Rv,results85,go_sem]) rfl ⟨rfl,_,_,(a0).drop HS.out,by rw[Bs,Aq (f:=fun m=>m.Pc) rfl (K:=fun m'=>(es[(a:Int).toNat]?).map fun e=>{ m' with Pc:=e }) aa,Ry,ac];cases b1 <;> rfl⟩
 ·have a9:(es.length:Int)<=arg:=K9
  go_wp2_with(fail);have a0:=H0.out.num (i:=7) (v:=H M) (bad':=M) (m':=m0) rfl rfl hk (fun _ _=>rfl);exact Rj (v:=.tuple #[]) (by simp[Rv,results85,go_sem]) rfl ⟨rfl,_,_,(a0).drop HS.out,by rw[Bs,To K9];show C=(zP m0 m0.Pc).bind _;cases zP m0 m0.Pc <;> rfl⟩
theorem zpN (h:ie B Y W Ra gc I m)(hm0:({ m with Pc:=m.Pc+(n:Int) }:fv)=m0)(hp : -1152921504606846976<=m.Pc/\m.Pc<=1152921504606846976)(hn:n<=5)(ha:0<=arg/\arg<=255) :
  RD prog 85 #[.agg #[G A0 n0 c0,G A1 n1 c1,G A2 es.length c2],.pointer (D ⟨gc,0,C⟩),.agg #[J Z 13,J Z arg],J Z n] W (iE (fun m=>zA es m 13 arg) B Y Ra gc I m0):=by
 have kc:=nA h #[G A0 n0 c0,G A1 n1 c1,G A2 es.length c2] #[J Z 13,J Z arg];refine pC ?zk;intro gs BB HS a3 a4 ac Q0 K0 ab w0 HB aa H0;clear h kc hp hn;obtain⟨A,c,Ao,co,z0,z1,z2,z3,z4,z5,z6,z7,zf,zl,hk,p0,p1,a0,a1,pl,q0,q1,q2,qf,ql⟩:=H0.out.pf a3 a4;have a7:=hk.fp;go_upto_region 29 with(go_at_call 136;(with_reducible refine(zeq H0.out a7).mono ?_);rintro e w1 ⟨rfl,b1,m1,a5,a8⟩);have H1:=fh a5;clear a5;clear z0 z1 z2 z3 z4 z5 z6 z7 zf zl p0 p1 a0 a1 pl q0 q1 q2 qf ql;obtain⟨A,c,Ao,co,z0,z1,z2,z3,z4,z5,z6,z7,zf,zl,hk,p0,p1,a0,a1,pl,q0,q1,q2,qf,ql⟩:=H1.out.pf a3 a4;go_upto_region 30 with(fail);have a2:=H1.out.num (i:=2) (v:=J Z m1.Sp) (bad':=b1) (m':={ m1 with Fp:=m1.Sp }) rfl rfl ⟨hk.len,hk.out,hk.pc,hk.sp,hk.sp,hk.st,hk.va⟩ (fun _ _=>rfl);generalize w1.setCell _ _=w2 at a2 |-;have H2:=fh a2;clear a2;clear z0 z1 z2 z3 z4 z5 z6 z7 zf zl p0 p1 a0 a1 pl q0 q1 q2 qf ql;obtain⟨A,c,Ao,co,z0,z1,z2,z3,z4,z5,z6,z7,zf,zl,hk,p0,p1,a0,a1,pl,q0,q1,q2,qf,ql⟩:=H2.out.pf a3 a4;go_wp2_with(go_at_call 140;(with_reducible refine(zsH H2.out ha.1 K9).mono ?_);rintro e w3 ⟨rfl,b3,m3,a6,a9⟩);exact RI (v:=.tuple #[]) (by simp[Rv,results85,go_sem]) rfl ⟨rfl,_,_,(a6).drop HS.out,by rw[a9,Jd,Aq (f:=fun m=>m.Fp) rfl (K:=fun m'=>oA arg.toNat { m' with Fp:=m'.Sp }) a8];cases b1 <;> rfl⟩
theorem zpP (h:ie B Y W Ra gc I m)(hm0:({ m with Pc:=m.Pc+(n:Int) }:fv)=m0)(hp : -1152921504606846976<=m.Pc/\m.Pc<=1152921504606846976)(hn:n<=5)(ha:0<=arg/\arg<=255) :
  RD prog 85 #[.agg #[G A0 n0 c0,G A1 n1 c1,G A2 es.length c2],.pointer (D ⟨gc,0,C⟩),.agg #[J Z 15,J Z arg],J Z n] W (iE (fun m=>zA es m 15 arg) B Y Ra gc I m0):=by
 have kc:=nA h #[G A0 n0 c0,G A1 n1 c1,G A2 es.length c2] #[J Z 15,J Z arg];refine pC ?zk;intro gs BB HS a2 a3 a8 Q0 K0 a5 w0 HB a4 H0;clear h kc hp hn;obtain⟨A,c,Ao,co,z0,z1,z2,z3,z4,z5,z6,z7,zf,zl,hk,p0,p1,a6,a7,pl,q0,q1,q2,qf,ql⟩:=H0.out.pf a2 a3;go_wp2_with(go_at_call 140;(with_reducible refine(zsH H0.out ha.1 K9).mono ?_);rintro e w1 ⟨rfl,b1,m1,a0,a1⟩);exact RI (v:=.tuple #[]) (by simp[Rv,results85,go_sem]) rfl ⟨rfl,_,_,(a0).drop HS.out,a1⟩
theorem zpO (h:ie B Y W Ra gc I m)(hm0:({ m with Pc:=m.Pc+(n:Int) }:fv)=m0)(hp : -1152921504606846976<=m.Pc/\m.Pc<=1152921504606846976)(hn:n<=5)(ha:0<=arg/\arg<=255) :
  RD prog 85 #[.agg #[G A0 n0 c0,G A1 n1 c1,G A2 es.length c2],.pointer (D ⟨gc,0,C⟩),.agg #[J Z 14,J Z arg],J Z n] W (iE (fun m=>zA es m 14 arg) B Y Ra gc I m0):=by
 have kc:=nA h #[G A0 n0 c0,G A1 n1 c1,G A2 es.length c2] #[J Z 14,J Z arg];refine pC ?zk;intro gs BB HS a2 a3 ap Q0 K0 ao w0 HB an H0;clear h kc hp hn;obtain⟨A,c,Ao,co,z0,z1,z2,z3,z4,z5,z6,z7,zf,zl,hk,p0,p1,a0,a1,pl,q0,q1,q2,qf,ql⟩:=H0.out.pf a2 a3;go_upto_region 35 with(go_at_call 139;(with_reducible refine(tu H0.out).mono ?_);rintro e w1 ⟨v1,b1,m1,aj,rfl,a9,ad⟩);have H1:=fh a9;clear a9;clear z0 z1 z2 z3 z4 z5 z6 z7 zf zl p0 p1 a0 a1 pl q0 q1 q2 qf ql;obtain⟨A,c,Ao,co,z0,z1,z2,z3,z4,z5,z6,z7,zf,zl,hk,p0,p1,a0,a1,pl,q0,q1,q2,qf,ql⟩:=H1.out.pf a2 a3;obtain⟨am,a5⟩:∃ q,fP m1.Fp 0 1200=q:=⟨_,rfl⟩
 have a6:=fh a5;clear a5;cases am with
 | false=>
  go_wp2_with(go_at_call 43;(with_reducible refine(gW _ _ _ _).mono ?_);rw[a6.out];rintro e w9 ⟨rfl,rfl⟩);have a4:=H1.out.num (i:=7) (v:=H M) (bad':=M) (m':=m1) rfl rfl hk (fun _ _=>rfl);exact Rj (v:=.tuple #[]) (by simp[Rv,results85,go_sem]) rfl ⟨rfl,_,_,(a4).drop HS.out,N3 ad a6.out⟩
 | true=>
 go_upto_region 37 with(go_at_call 43;(with_reducible refine(gW _ _ _ _).mono ?_);rw[a6.out];rintro e w9 ⟨rfl,rfl⟩);go_upto_region 38 with(fail);have a4:=H1.out.num (i:=1) (v:=J Z m1.Fp) (bad':=b1) (m':={ m1 with Sp:=m1.Fp }) rfl rfl ⟨hk.len,hk.out,hk.pc,hk.fp,hk.fp,hk.st,hk.va⟩ (fun _ _=>rfl);generalize w1.setCell _ _=w2 at a4 |-;have H2:=fh a4;clear a4;clear z0 z1 z2 z3 z4 z5 z6 z7 zf zl p0 p1 a0 a1 pl q0 q1 q2 qf ql;obtain⟨A,c,Ao,co,z0,z1,z2,z3,z4,z5,z6,z7,zf,zl,hk,p0,p1,a0,a1,pl,q0,q1,q2,qf,ql⟩:=H2.out.pf a2 a3;go_upto_region 39 with(go_at_call 139;(with_reducible refine(tu H2.out).mono ?_);rintro e w3 ⟨v3,b3,m3,ak,rfl,aa,af⟩;have H3:=fh aa;obtain⟨A,c,Ao,co,z0,z1,z2,z3,z4,z5,z6,z7,zf,zl,hk⟩:=aa.cells);have a7:=H3.out.num (i:=2) (v:=J Z v3) (bad':=b3) (m':={ m3 with Fp:=v3 }) rfl rfl ⟨hk.len,hk.out,hk.pc,hk.sp,ak,hk.st,hk.va⟩ (fun _ _=>rfl);generalize w3.setCell _ _=w4 at a7 |-;have H4:=fh a7;clear a7;clear z0 z1 z2 z3 z4 z5 z6 z7 zf zl p0 p1 a0 a1 pl q0 q1 q2 qf ql;obtain⟨A,c,Ao,co,z0,z1,z2,z3,z4,z5,z6,z7,zf,zl,hk,p0,p1,a0,a1,pl,q0,q1,q2,qf,ql⟩:=H4.out.pf a2 a3;go_upto_region 40 with(go_at_call 139;(with_reducible refine(tu H4.out).mono ?_);rintro e w5 ⟨v5,b5,m5,al,rfl,ab,ag⟩;have H5:=fh ab;obtain⟨A,c,Ao,co,z0,z1,z2,z3,z4,z5,z6,z7,zf,zl,hk⟩:=ab.cells);have a8:=H5.out.num (i:=0) (v:=J Z v5) (bad':=b5) (m':={ m5 with Pc:=v5 }) rfl rfl ⟨hk.len,hk.out,al,hk.sp,hk.fp,hk.st,hk.va⟩ (fun _ _=>rfl);generalize w5.setCell _ _=w6 at a8 |-;have H6:=fh a8;clear a8;clear z0 z1 z2 z3 z4 z5 z6 z7 zf zl p0 p1 a0 a1 pl q0 q1 q2 qf ql;obtain⟨A,c,Ao,co,z0,z1,z2,z3,z4,z5,z6,z7,zf,zl,hk,p0,p1,a0,a1,pl,q0,q1,q2,qf,ql⟩:=H6.out.pf a2 a3;go_upto_region 41 with(go_at_call 141;(with_reducible refine(zqP H6.out ha.1 K9).mono ?_);rintro e w7 ⟨rfl,b7,m7,ac,ah⟩);have H7:=fh ac;clear ac;clear z0 z1 z2 z3 z4 z5 z6 z7 zf zl p0 p1 a0 a1 pl q0 q1 q2 qf ql;obtain⟨A,c,Ao,co,z0,z1,z2,z3,z4,z5,z6,z7,zf,zl,hk,p0,p1,a0,a1,pl,q0,q1,q2,qf,ql⟩:=H7.out.pf a2 a3;go_wp2_with(go_at_call 136;(with_reducible refine(zeq H7.out aj).mono ?_);rintro e w8 ⟨rfl,b8,m8,ae,ai⟩);exact RI (v:=.tuple #[]) (by simp[Rv,results85,go_sem]) rfl ⟨rfl,_,_,(ae).drop HS.out,Gc ad af ag ah ai⟩
theorem zpQ (h:ie B Y W Ra gc I m)(hm0:({ m with Pc:=m.Pc+(n:Int) }:fv)=m0)(hp : -1152921504606846976<=m.Pc/\m.Pc<=1152921504606846976)(hn:n<=5)(ha:0<=arg/\arg<=65535) :
  RD prog 85 #[.agg #[G A0 n0 c0,G A1 n1 c1,G A2 es.length c2],.pointer (D ⟨gc,0,C⟩),.agg #[J Z 16,J Z arg],J Z n] W (iE (fun m=>zA es m 16 arg) B Y Ra gc I m0):=by
 have kc:=nA h #[G A0 n0 c0,G A1 n1 c1,G A2 es.length c2] #[J Z 16,J Z arg];refine pC ?zk;intro gs BB HS a2 a3 aj Q0 K0 ai w0 HB ah H0;clear h kc hp hn;obtain⟨A,c,Ao,co,z0,z1,z2,z3,z4,z5,z6,z7,zf,zl,hk,p0,p1,a0,a1,pl,q0,q1,q2,qf,ql⟩:=H0.out.pf a2 a3;obtain⟨a,rfl⟩:=RE ha.1;go_upto_region 44 with(go_at_call 139;(with_reducible refine(tu H0.out).mono ?_);rintro e w1 ⟨v1,b1,m1,af,rfl,a5,aa⟩);have H1:=fh a5;clear a5;clear z0 z1 z2 z3 z4 z5 z6 z7 zf zl p0 p1 a0 a1 pl q0 q1 q2 qf ql;obtain⟨A,c,Ao,co,z0,z1,z2,z3,z4,z5,z6,z7,zf,zl,hk,p0,p1,a0,a1,pl,q0,q1,q2,qf,ql⟩:=H1.out.pf a2 a3;go_upto_region 45 with(go_at_call 141;(with_reducible refine(zqP (n:=(a:Int) / 16) H1.out K9 K9).mono ?_);rintro e w2 ⟨rfl,b2,m2,a6,ab⟩);have H2:=fh a6;clear a6;clear z0 z1 z2 z3 z4 z5 z6 z7 zf zl p0 p1 a0 a1 pl q0 q1 q2 qf ql;obtain⟨A,c,Ao,co,z0,z1,z2,z3,z4,z5,z6,z7,zf,zl,hk,p0,p1,a0,a1,pl,q0,q1,q2,qf,ql⟩:=H2.out.pf a2 a3;go_upto_region 46 with(go_at_call 139;(with_reducible refine(tu H2.out).mono ?_);rintro e w3 ⟨v3,b3,m3,ag,rfl,a7,ac⟩;have H3:=fh a7;obtain⟨A,c,Ao,co,z0,z1,z2,z3,z4,z5,z6,z7,zf,zl,hk⟩:=a7.cells);have a4:=H3.out.num (i:=0) (v:=J Z v3) (bad':=b3) (m':={ m3 with Pc:=v3 }) rfl rfl ⟨hk.len,hk.out,ag,hk.sp,hk.fp,hk.st,hk.va⟩ (fun _ _=>rfl);generalize w3.setCell _ _=w4 at a4 |-;have H4:=fh a4;clear a4;clear z0 z1 z2 z3 z4 z5 z6 z7 zf zl p0 p1 a0 a1 pl q0 q1 q2 qf ql;obtain⟨A,c,Ao,co,z0,z1,z2,z3,z4,z5,z6,z7,zf,zl,hk,p0,p1,a0,a1,pl,q0,q1,q2,qf,ql⟩:=H4.out.pf a2 a3;go_upto_region 47 with(go_at_call 141;(with_reducible refine(zqP (n:=(a:Int) % 16) H4.out K9 K9).mono ?_);rintro e w5 ⟨rfl,b5,m5,a8,ad⟩);have H5:=fh a8;clear a8;clear z0 z1 z2 z3 z4 z5 z6 z7 zf zl p0 p1 a0 a1 pl q0 q1 q2 qf ql;obtain⟨A,c,Ao,co,z0,z1,z2,z3,z4,z5,z6,z7,zf,zl,hk,p0,p1,a0,a1,pl,q0,q1,q2,qf,ql⟩:=H5.out.pf a2 a3;go_wp2_with(go_at_call 136;(with_reducible refine(zeq H5.out af).mono ?_);rintro e w6 ⟨rfl,b6,m6,a9,ae⟩);exact RI (v:=.tuple #[]) (by simp[Rv,results85,go_sem]) rfl ⟨rfl,_,_,(a9).drop HS.out,IS aa ab ac ad ae⟩
theorem zpR (h:ie B Y W Ra gc I m)(hm0:({ m with Pc:=m.Pc+(n:Int) }:fv)=m0)(hp : -1152921504606846976<=m.Pc/\m.Pc<=1152921504606846976)(hn:n<=5)(hN:Ra<=2000000000000) :
  RD prog 85 #[.agg #[G A0 n0 c0,G A1 n1 c1,G A2 es.length c2],.pointer (D ⟨gc,0,C⟩),.agg #[J Z 17,J Z arg],J Z n] W (iE (fun m=>zA es m 17 arg) B Y (Ra+1) gc I m0):=by
 have kc:=nA h #[G A0 n0 c0,G A1 n1 c1,G A2 es.length c2] #[J Z 17,J Z arg];refine pC ?zk;intro gs BB HS ai aj ax Q0 K0 av w0 HB ap H0;clear h kc hp hn;obtain⟨A,c,Ao,co,z0,z1,z2,z3,z4,z5,z6,z7,zf,zl,hk,p0,p1,al,am,pl,q0,q1,q2,qf,ql⟩:=H0.out.pf ai aj;have ag:=hk;go_upto_region 49 with(fail);have aw:m0.If.length<=Ra:=ag.out;refine zX (fun w'=>Rb w' ⟨gc,4,C⟩=D (G Ao m0.If.length co)) 13 Fs (zc z4) (fun hH=>?_);have hX:=H0.out.fy ((fu.refl w0).drew);generalize w0.drew=wx at hX hH |-;have HX:=fh hX;clear hX;clear z0 z1 z2 z3 z4 z5 z6 z7 zf zl p0 p1 al am pl q0 q1 q2 qf ql;obtain⟨A,c,an,ar,z0,z1,z2,z3,_,z5,z6,z7,zf,zl,hk⟩:=HX.out.cells;have z4:=hH;refine .tq 0 [10,11,12,13] hH ?_;refine .tq 1 [2,3,4,5,9,10,11,12,13] hH ?_;refine .tq 2 [3,4,5,9,10,11,12,13] hH ?_;refine .tq 3 [4,5,9,10,11,12,13] hH ?_;refine .tq 4 [5,9,10,11,12,13] hH ?_;refine .tq 5 [9,10,11,12,13] hH ?_;refine .tq 6 [7,8,9,10,11,12,13] hH ?_;refine fA.gL (i:=7) Fs rfl (fun K hK=>?_);go_simp;go_at_call 139;refine(zn9 HX.out).mono ?_;rintro e w2 ⟨⟨v1,b1,m1,aa,rfl,ac,ah⟩,a9⟩;have ab:=a9 4 _ K9 K9 z4;clear a9;refine hK.out _ _ ab ?_;clear hK
 try simp only[lay]
 refine fA.gL (i:=8) Fs rfl (fun K hK=>?_);go_simp;have a4:=ac.jb (cs:=#[J Z v1]) (t:=3);have a2:=zo ab (F #[J Z v1] 3);have en:=Re w2 (F #[J Z v1] 3);refine hK.out _ _ a2 ?_;clear hK
 try simp only[lay]
 obtain⟨gn,af⟩:∃ g,w2.heap.size=g:=⟨_,rfl⟩
 rw[af] at a4 en |-;generalize w2.alloc _=w3 at a4 a2 en |-;obtain⟨A9,c9,S9,ao,au,aq,a0⟩:=a4;obtain⟨_,_,_,_,x4,_,_,_,_,_⟩:=tF a0.WA;have x4:=x4.symm.trans a2;injection x4 with x4
 injection x4 with e1 e2 e3
 subst e1 e3;have a5:m1.If.length=m0.If.length:=e2;have a8:=a0.out;rw[a5] at a8;refine fA.gL (i:=9) Fs rfl (fun K hK=>?_);refine pY (W1:=w3) (L:=m0.If.length+1) rfl (.tmp 257) (.tmp 260) lN zE a8 (ec:=[J Z v1]) (y:=v1) (B:=0) ⟨rfl,aa.1,aa.2⟩ rfl rfl rfl (by intro j u hu;have ak:=Sw w3 gn j _ _ (0,0) en;rw[ak];simpa using hu) rfl K9 K9 ?_;intro A7 c7 W7 S7 a6 a7 ae;have a3:=(a6.cell (blt a0.WA) a0.cs.2 4).trans a2;have x7:=(a6.block gc (blt a0.WA) a0.cs.2).trans a0.WA;obtain⟨_,_,_,_,_,_,_,_,ay,az⟩:=tF x7;refine hK.out _ _ a3 ?_;clear hK
 try simp only[lay]
 refine .tq 10 [11,12,13] a3 ?_;refine .tq 11 [12,13] a3 ?_;refine .tq 12 [13] a3 ?_;refine fA.last Fs rfl Fs (fun K hK=>?_);go_simp;refine hK.out _ _ ?_;clear hK
 try simp only[lay]
 rw[<-a5] at a7;have a1:=a0.WH a6 a7 ae;rw[a5] at a1;have ad:ie BB Y (W7.setCell ⟨gc,4,C⟩ (G A7 (m0.If.length+1) c7)) (Ra+1) gc b1 { m1 with If:=m1.If++[v1] }:=ie.drop ⟨_,_,_,_,_,_,a1⟩ (fun p hp=>SV _ hp);go_wp2_with(fail);exact RI (v:=.tuple #[]) (by simp[Rv,results85,go_sem]) rfl ⟨rfl,_,_,(ad).drop HS.out,IK ah⟩
theorem Ns {code:Int} (h:ie B Y W Ra gc I m)(he:(zr.sl 3).R Y Y.heap.size [G A2 es.length c2] es)(hes:es.length<=9223372036854775807)(hN:Ra<=2000000000000)
  (hp : -1152921504606846976<=m.Pc/\m.Pc<=1152921504606846976) (hn:n<=5) (hc:0<=code/\code<=17) (hb:BD code arg) (hI:fE arg) :
  RD prog 85 #[.agg #[G A0 n0 c0,G A1 n1 c1,G A2 es.length c2],.pointer (D ⟨gc,0,C⟩),.agg #[J Z code,J Z arg],J Z n] W (iE (fun m=>zA es m code arg) B Y (Ra+1) gc I { m with Pc:=m.Pc+(n:Int) }):=by
 have up:∀ r W',iE (fun m=>zA es m code arg) B Y Ra gc I { m with Pc:=m.Pc+(n:Int) } r W'->iE (fun m=>zA es m code arg) B Y (Ra+1) gc I { m with Pc:=m.Pc+(n:Int) } r W':=fun _ _ h=>h.up;have hk:code=0∨code=1∨code=2∨code=3∨code=4∨code=5∨code=6∨code=7∨code=8∨code=9∨code=10∨code=11∨code=12∨code=13∨code=14∨code=15∨code=16∨code=17:=K9;rcases hk with rfl | rfl | rfl | rfl | rfl | rfl | rfl | rfl | rfl | rfl | rfl | rfl | rfl | rfl | rfl | rfl | rfl | rfl
 ·exact(zrj h rfl hp hn hI).mono up
 ·exact(zrk h rfl hp hn (hb.1 K9)).mono up
 ·exact(zrl h rfl hp hn (hb.1 K9)).mono up
 ·exact(zrm h rfl hp hn (hb.1 K9)).mono up
 ·exact(zrn h rfl hp hn (hb.1 K9)).mono up
 ·exact(zro h rfl hp hn).mono up
 ·exact(zrp h rfl hp hn).mono up
 ·exact(zrq h rfl hp hn).mono up
 ·exact(zrr h rfl hp hn).mono up
 ·exact(zrs h rfl hp hn).mono up
 ·exact(zpK h rfl hp hn (hb.1 K9)).mono up
 ·exact(zpL h rfl hp hn (hb.1 K9)).mono up
 ·exact(zpM h rfl hp hn he hes (hb.2.2 K9)).mono up
 ·exact(zpN h rfl hp hn (hb.2.2 K9)).mono up
 ·exact(zpO h rfl hp hn (hb.2.2 K9)).mono up
 ·exact(zpP h rfl hp hn (hb.2.2 K9)).mono up
 ·exact(zpQ h rfl hp hn (hb.2.1 rfl)).mono up
 ·exact zpR h rfl hp hn hN
end Go.Proofs.YthgbglbaemelhaaGreat
