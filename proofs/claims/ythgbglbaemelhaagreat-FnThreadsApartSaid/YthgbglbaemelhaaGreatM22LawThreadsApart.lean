/-
  PART.
-/
import Derived.Test.YthgbglbaemelhaaGreatM20LawThreadsApart
import Derived.Test.YthgbglbaemelhaaGreatM21LawThreadsApart
set_option linter.unusedVariables false
set_option linter.unusedSimpArgs false
set_option maxRecDepth 100000
set_option maxHeartbeats 8000000
namespace Go.Proofs.YthgbglbaemelhaaGreat
open Value renaming slice->G,int->J,bool->H
open IntKind renaming i64->Z
open Option renaming none->C,some->D
open Obj renaming cells->F
open Bool renaming false->I,true->M
open Go renaming World->U,results->Rv,Calls->RD,Addr->RJ,yielded->Th
open World renaming cell?->Rb,frozen?->Rx
open _root_.Int renaming toNat_natCast->Ry
open List renaming take_succ_cons->RZ,take_zero->SH
open RowKit renaming wrap64->SN
open Region renaming wanted->RV,ready->Sn,noSelect->TZ,Mode->Ub,free->Wu
open Tryz
open Go.RowKit
variable {A0 A1 A2:X RJ}{B:Q (Nat × Obj)}{Ra c0 c1 c2 gc gm n0 n1:Nat}{W Y:U}{arg:Int}{bad:Bool}{es:Q Int}{m:fv}
theorem ve {g:Prop} (f:g:=by
  have h2:=(h.jb (cs:=cs) (t:=28)).jb (cs:=ct) (t:=142)
  rw[Rz] at h2
  exact⟨_,_,_,rfl,rfl,fh h2,fh fun p hp=>SV _ (SV _ hp),TA,SV _ TA⟩):g:=f
theorem nz (h:hJ B Y W Ra gc gm I m)(cs ct:Array Value):∃(gs:Nat)(BB:Q (Nat × Obj))(W1:U),W.heap.size=gs/\(W.alloc (F cs 28)).alloc (F ct 142)=W1/\Hid (hJ BB Y W1 Ra gc gm I m)/\Hid (∀ p∈B,p∈BB)/\(gs+1,F ct 142 (0,0))∈BB/\(gs,F cs 28 (0,0))∈BB:=by
 exact ve
theorem hJ.pf {BB:Q (Nat × Obj)} {gs:Nat} {a b d e f:Value} (h:hJ BB Y W Ra gc gm bad m)(ho:(gs+1,F #[a,b] 142 (0,0))∈BB)(hs:(gs,F #[d,e,f] 28 (0,0))∈BB):∃ A c Ao co,
  Rb W ⟨gc,0,C⟩=D (.pointer (D ⟨gm,0,C⟩))/\Rb W ⟨gc,1,C⟩=D (H bad)/\(∀ j,Rx W ⟨gc,j,C⟩=I)/\gc<W.heap.size/\
  Rb W ⟨gm,0,C⟩=D (J Z m.Pc)/\Rb W ⟨gm,1,C⟩=D (J Z m.Sp)/\Rb W ⟨gm,2,C⟩=D (J Z m.Fp)/\Rb W ⟨gm,3,C⟩=D (G A m.pm.length c)/\Rb W ⟨gm,4,C⟩=D (G Ao m.If.length co)/\Rb W ⟨gm,5,C⟩=D (J Z m.rc)/\Rb W ⟨gm,6,C⟩=D (J Z m.Value)/\(∀ j,Rx W ⟨gm,j,C⟩=I)/\gm<W.heap.size/\kX Ra m/\
  Rb W ⟨gs+1,0,C⟩=D a/\Rb W ⟨gs+1,1,C⟩=D b/\Rx W ⟨gs+1,0,C⟩=I/\Rx W ⟨gs+1,1,C⟩=I/\gs+1<W.heap.size/\
  Rb W ⟨gs,0,C⟩=D d/\Rb W ⟨gs,1,C⟩=D e/\Rb W ⟨gs,2,C⟩=D f/\(∀ j,Rx W ⟨gs,j,C⟩=I)/\gs<W.heap.size:=by
 obtain⟨A,c,Ao,co,y0,y1,yf,yl,z0,z1,z2,z3,z4,z5,z6,zf,zl,hk⟩:=h.cells;obtain⟨p0,p1,a0,a1,pl⟩:=jT (h.kept ho);exact⟨A,c,Ao,co,y0,y1,yf,yl,z0,z1,z2,z3,z4,z5,z6,zf,zl,hk,p0,p1,a0,a1,pl,iS (h.kept hs)⟩
theorem zq9 (h:hJ B Y W Ra gc gm I m)(ha:fE arg) :
  RD prog 131 #[.pointer (D ⟨gc,0,C⟩),.agg #[G A0 n0 c0,G A1 n1 c1,G A2 es.length c2],.agg #[J Z 0,J Z arg]] W (iz (fun m=>zA es m 0 arg) B Y Ra gc gm I m):=by
 obtain⟨gs,BB,W1,a2,a1,H0,HS,a4,a5⟩:=nz h #[G A0 n0 c0,G A1 n1 c1,G A2 es.length c2] #[J Z 0,J Z arg];go_enter func131,ntmps131;go_upto_region 1 with(fail);clear a1 a2 h;obtain⟨A,c,Ao,co,y0,y1,yf,yl,z0,z1,z2,z3,z4,z5,z6,zf,zl,hk,p0,p1,a6,a7,pl,q0,q1,q2,qf,ql⟩:=H0.out.pf a4 a5;go_wp2_with(go_at_call 173;(with_reducible refine(zeM H0.out ha).mono ?_);rintro e w1 ⟨rfl,b1,m1,a0,a3⟩);exact RI (v:=.tuple #[]) (by simp[Rv,results131,go_sem]) rfl ⟨rfl,_,_,(a0).drop HS.out,a3⟩
theorem zra (h:hJ B Y W Ra gc gm I m)(ha : -32768<=arg/\arg<=32767) :
  RD prog 131 #[.pointer (D ⟨gc,0,C⟩),.agg #[G A0 n0 c0,G A1 n1 c1,G A2 es.length c2],.agg #[J Z 1,J Z arg]] W (iz (fun m=>zA es m 1 arg) B Y Ra gc gm I m):=by
 obtain⟨gs,BB,W1,a6,a5,H0,HS,a0,a1⟩:=nz h #[G A0 n0 c0,G A1 n1 c1,G A2 es.length c2] #[J Z 1,J Z arg];go_enter func131,ntmps131;go_upto_region 1 with(fail);clear a5 a6 h;obtain⟨A,c,Ao,co,y0,y1,yf,yl,z0,z1,z2,z3,z4,z5,z6,zf,zl,hk,p0,p1,a2,a3,pl,q0,q1,q2,qf,ql⟩:=H0.out.pf a0 a1;have a7:=hk;go_upto_region 6 with(fail);refine sX 8 Fs Fs (fun wx hgx=>?_);have HX:=fh (H0.out.fy hgx);clear y0 y1 yf yl z0 z1 z2 z3 z4 z5 z6 zf zl p0 p1 a2 a3 pl q0 q1 q2 qf ql;obtain⟨A,c,Ao,co,y0,y1,yf,yl,z0,z1,z2,z3,z4,z5,z6,zf,zl,hk,p0,p1,a2,a3,pl,q0,q1,q2,qf,ql⟩:=HX.out.pf a0 a1;simp only[RZ,SH,Sm,Sx]
 repeat still_step
 refine Tj ?_;go_wp2_with(go_at_call 174;(with_reducible refine(zu1 HX.out).mono ?_);rintro e w1 ⟨rfl,b1,m1,a4,a8⟩);exact RI (v:=.tuple #[]) (by simp[Rv,results131,go_sem]) rfl ⟨rfl,_,_,(a4).drop HS.out,by rw[a8];show (ll m _).bind _=_;rw[Dd a7.fp ha];rfl⟩
theorem zrc (h:hJ B Y W Ra gc gm I m)(ha : -32768<=arg/\arg<=32767) :
  RD prog 131 #[.pointer (D ⟨gc,0,C⟩),.agg #[G A0 n0 c0,G A1 n1 c1,G A2 es.length c2],.agg #[J Z 3,J Z arg]] W (iz (fun m=>zA es m 3 arg) B Y Ra gc gm I m):=by
 obtain⟨gs,BB,W1,a6,a5,H0,HS,a0,a1⟩:=nz h #[G A0 n0 c0,G A1 n1 c1,G A2 es.length c2] #[J Z 3,J Z arg];go_enter func131,ntmps131;go_upto_region 1 with(fail);clear a5 a6 h;obtain⟨A,c,Ao,co,y0,y1,yf,yl,z0,z1,z2,z3,z4,z5,z6,zf,zl,hk,p0,p1,a2,a3,pl,q0,q1,q2,qf,ql⟩:=H0.out.pf a0 a1;have a7:=hk;go_upto_region 8 with(fail);refine sX 8 Fs Fs (fun wx hgx=>?_);have HX:=fh (H0.out.fy hgx);clear y0 y1 yf yl z0 z1 z2 z3 z4 z5 z6 zf zl p0 p1 a2 a3 pl q0 q1 q2 qf ql;obtain⟨A,c,Ao,co,y0,y1,yf,yl,z0,z1,z2,z3,z4,z5,z6,zf,zl,hk,p0,p1,a2,a3,pl,q0,q1,q2,qf,ql⟩:=HX.out.pf a0 a1;simp only[RZ,SH,Sm,Sx]
 repeat still_step
 refine Tj ?_;go_wp2_with(go_at_call 174;(with_reducible refine(zu1 HX.out).mono ?_);rintro e w1 ⟨rfl,b1,m1,a4,a8⟩);exact RI (v:=.tuple #[]) (by simp[Rv,results131,go_sem]) rfl ⟨rfl,_,_,(a4).drop HS.out,by rw[a8];show (ll m _).bind _=_;rw[Dd a7.sp ha];rfl⟩
theorem zrb (h:hJ B Y W Ra gc gm I m)(ha : -32768<=arg/\arg<=32767) :
  RD prog 131 #[.pointer (D ⟨gc,0,C⟩),.agg #[G A0 n0 c0,G A1 n1 c1,G A2 es.length c2],.agg #[J Z 2,J Z arg]] W (iz (fun m=>zA es m 2 arg) B Y Ra gc gm I m):=by
 obtain⟨gs,BB,W1,a6,a5,H0,HS,a0,a1⟩:=nz h #[G A0 n0 c0,G A1 n1 c1,G A2 es.length c2] #[J Z 2,J Z arg];go_enter func131,ntmps131;go_upto_region 1 with(fail);clear a5 a6 h;obtain⟨A,c,Ao,co,y0,y1,yf,yl,z0,z1,z2,z3,z4,z5,z6,zf,zl,hk,p0,p1,a2,a3,pl,q0,q1,q2,qf,ql⟩:=H0.out.pf a0 a1;have a7:=hk;go_upto_region 10 with(fail);refine sX 8 Fs Fs (fun wx hgx=>?_);have HX:=fh (H0.out.fy hgx);clear y0 y1 yf yl z0 z1 z2 z3 z4 z5 z6 zf zl p0 p1 a2 a3 pl q0 q1 q2 qf ql;obtain⟨A,c,Ao,co,y0,y1,yf,yl,z0,z1,z2,z3,z4,z5,z6,zf,zl,hk,p0,p1,a2,a3,pl,q0,q1,q2,qf,ql⟩:=HX.out.pf a0 a1;simp only[RZ,SH,Sm,Sx]
 repeat still_step
 refine Tj ?_;go_wp2_with(go_at_call 175;(with_reducible refine(zst HX.out).mono ?_);rintro e w1 ⟨rfl,b1,m1,a4,a8⟩);exact RI (v:=.tuple #[]) (by simp[Rv,results131,go_sem]) rfl ⟨rfl,_,_,(a4).drop HS.out,by rw[a8];show (gX m).bind _=_;simp only[CN a7.fp ha];rfl⟩
theorem zrd (h:hJ B Y W Ra gc gm I m)(ha : -32768<=arg/\arg<=32767) :
  RD prog 131 #[.pointer (D ⟨gc,0,C⟩),.agg #[G A0 n0 c0,G A1 n1 c1,G A2 es.length c2],.agg #[J Z 4,J Z arg]] W (iz (fun m=>zA es m 4 arg) B Y Ra gc gm I m):=by
 obtain⟨gs,BB,W1,a6,a5,H0,HS,a0,a1⟩:=nz h #[G A0 n0 c0,G A1 n1 c1,G A2 es.length c2] #[J Z 4,J Z arg];go_enter func131,ntmps131;go_upto_region 1 with(fail);clear a5 a6 h;obtain⟨A,c,Ao,co,y0,y1,yf,yl,z0,z1,z2,z3,z4,z5,z6,zf,zl,hk,p0,p1,a2,a3,pl,q0,q1,q2,qf,ql⟩:=H0.out.pf a0 a1;have a7:=hk;go_upto_region 12 with(fail);refine sX 8 Fs Fs (fun wx hgx=>?_);have HX:=fh (H0.out.fy hgx);clear y0 y1 yf yl z0 z1 z2 z3 z4 z5 z6 zf zl p0 p1 a2 a3 pl q0 q1 q2 qf ql;obtain⟨A,c,Ao,co,y0,y1,yf,yl,z0,z1,z2,z3,z4,z5,z6,zf,zl,hk,p0,p1,a2,a3,pl,q0,q1,q2,qf,ql⟩:=HX.out.pf a0 a1;simp only[RZ,SH,Sm,Sx]
 repeat still_step
 refine Tj ?_;go_wp2_with(go_at_call 175;(with_reducible refine(zst HX.out).mono ?_);rintro e w1 ⟨rfl,b1,m1,a4,a8⟩);exact RI (v:=.tuple #[]) (by simp[Rv,results131,go_sem]) rfl ⟨rfl,_,_,(a4).drop HS.out,by rw[a8];show (gX m).bind _=_;simp only[CN a7.sp ha];rfl⟩
theorem WF {g:Prop} (f:g:=by
  go_enter func131,ntmps131
  go_upto_region 1 with(fail)
  clear hW1 hgs h
  obtain⟨A,c,Ao,co,y0,y1,yf,yl,z0,z1,z2,z3,z4,z5,z6,zf,zl,hk,p0,p1,pf0,pf1,pl,q0,q1,q2,qf,ql⟩:=H0.out.pf hop hsp
  go_upto_region 19 with(go_at_call 176;(with_reducible refine(sF H0.out).mono ?_);rintro e w1 ⟨v1,b1,m1,hv1,rfl,hC1,ho1⟩)
  have H1:=fh hC1
  clear hC1
  clear y0 y1 yf yl z0 z1 z2 z3 z4 z5 z6 zf zl p0 p1 pf0 pf1 pl q0 q1 q2 qf ql
  obtain⟨A,c,Ao,co,y0,y1,yf,yl,z0,z1,z2,z3,z4,z5,z6,zf,zl,hk,p0,p1,pf0,pf1,pl,q0,q1,q2,qf,ql⟩:=H1.out.pf hop hsp
  go_upto_region 20 with(go_at_call 176;(with_reducible refine(sF H1.out).mono ?_);rintro e w2 ⟨v2,b2,m2,hv2,rfl,hC2,ho2⟩)
  have H2:=fh hC2
  clear hC2
  clear y0 y1 yf yl z0 z1 z2 z3 z4 z5 z6 zf zl p0 p1 pf0 pf1 pl q0 q1 q2 qf ql
  obtain⟨A,c,Ao,co,y0,y1,yf,yl,z0,z1,z2,z3,z4,z5,z6,zf,zl,hk,p0,p1,pf0,pf1,pl,q0,q1,q2,qf,ql⟩:=H2.out.pf hop hsp
  go_wp2_with(first | (go_at_call 177;(with_reducible refine(zgS (k:=_) (a:=v2) (b:=v1) K9 hv2 hv1).mono ?_);rintro e w3 ⟨rfl,rfl⟩) | (go_at_call 173;(with_reducible refine(zeM H2.out (DQ _ v2 v1)).mono ?_);rintro e w4 ⟨rfl,b4,m4,hC4,ho4⟩))
  exact RI (v:=.tuple #[]) (by simp[Rv,results131,go_sem]) rfl ⟨rfl,_,_,(hC4).drop HS.out,by rw[Eb K9,oO (K:=fun p=>(gX p.1).bind fun q=>zP q.1 (zO _ q.2 p.2)) ho1,oO (K:=fun q=>zP q.1 (zO _ q.2 v1)) ho2];exact ho4⟩):g:=f
theorem zre (h:hJ B Y W Ra gc gm I m) :
  RD prog 131 #[.pointer (D ⟨gc,0,C⟩),.agg #[G A0 n0 c0,G A1 n1 c1,G A2 es.length c2],.agg #[J Z 5,J Z arg]] W (iz (fun m=>zA es m 5 arg) B Y Ra gc gm I m):=by
 obtain⟨gs,BB,W1,hgs,hW1,H0,HS,hop,hsp⟩:=nz h #[G A0 n0 c0,G A1 n1 c1,G A2 es.length c2] #[J Z 5,J Z arg];exact WF
theorem zrf (h:hJ B Y W Ra gc gm I m) :
  RD prog 131 #[.pointer (D ⟨gc,0,C⟩),.agg #[G A0 n0 c0,G A1 n1 c1,G A2 es.length c2],.agg #[J Z 6,J Z arg]] W (iz (fun m=>zA es m 6 arg) B Y Ra gc gm I m):=by
 obtain⟨gs,BB,W1,hgs,hW1,H0,HS,hop,hsp⟩:=nz h #[G A0 n0 c0,G A1 n1 c1,G A2 es.length c2] #[J Z 6,J Z arg];exact WF
theorem zrg (h:hJ B Y W Ra gc gm I m) :
  RD prog 131 #[.pointer (D ⟨gc,0,C⟩),.agg #[G A0 n0 c0,G A1 n1 c1,G A2 es.length c2],.agg #[J Z 7,J Z arg]] W (iz (fun m=>zA es m 7 arg) B Y Ra gc gm I m):=by
 obtain⟨gs,BB,W1,hgs,hW1,H0,HS,hop,hsp⟩:=nz h #[G A0 n0 c0,G A1 n1 c1,G A2 es.length c2] #[J Z 7,J Z arg];exact WF
theorem zrh (h:hJ B Y W Ra gc gm I m) :
  RD prog 131 #[.pointer (D ⟨gc,0,C⟩),.agg #[G A0 n0 c0,G A1 n1 c1,G A2 es.length c2],.agg #[J Z 8,J Z arg]] W (iz (fun m=>zA es m 8 arg) B Y Ra gc gm I m):=by
 obtain⟨gs,BB,W1,hgs,hW1,H0,HS,hop,hsp⟩:=nz h #[G A0 n0 c0,G A1 n1 c1,G A2 es.length c2] #[J Z 8,J Z arg];exact WF
theorem zri (h:hJ B Y W Ra gc gm I m) :
  RD prog 131 #[.pointer (D ⟨gc,0,C⟩),.agg #[G A0 n0 c0,G A1 n1 c1,G A2 es.length c2],.agg #[J Z 9,J Z arg]] W (iz (fun m=>zA es m 9 arg) B Y Ra gc gm I m):=by
 obtain⟨gs,BB,W1,hgs,hW1,H0,HS,hop,hsp⟩:=nz h #[G A0 n0 c0,G A1 n1 c1,G A2 es.length c2] #[J Z 9,J Z arg];exact WF
theorem zpC (h:hJ B Y W Ra gc gm I m)(hp : -4611686018427387904<=m.Pc/\m.Pc<=4611686018427387904)(ha : -32768<=arg/\arg<=32767) :
  RD prog 131 #[.pointer (D ⟨gc,0,C⟩),.agg #[G A0 n0 c0,G A1 n1 c1,G A2 es.length c2],.agg #[J Z 10,J Z arg]] W (iz (fun m=>zA es m 10 arg) B Y Ra gc gm I m):=by
 obtain⟨gs,BB,W1,a6,a5,H0,HS,a0,a1⟩:=nz h #[G A0 n0 c0,G A1 n1 c1,G A2 es.length c2] #[J Z 10,J Z arg];go_enter func131,ntmps131;go_upto_region 1 with(fail);clear a5 a6 h;obtain⟨A,c,Ao,co,y0,y1,yf,yl,z0,z1,z2,z3,z4,z5,z6,zf,zl,hk,p0,p1,a2,a3,pl,q0,q1,q2,qf,ql⟩:=H0.out.pf a0 a1;have a7:=hk;go_upto_region 22 with(fail);refine sX 9 Fs Fs (fun wx hgx=>?_);have HX:=fh (H0.out.fy hgx);clear y0 y1 yf yl z0 z1 z2 z3 z4 z5 z6 zf zl p0 p1 a2 a3 pl q0 q1 q2 qf ql;obtain⟨A,c,Ao,co,y0,y1,yf,yl,z0,z1,z2,z3,z4,z5,z6,zf,zl,hk,p0,p1,a2,a3,pl,q0,q1,q2,qf,ql⟩:=HX.out.pf a0 a1;simp only[RZ,SH,Sm,Sx]
 repeat still_step
 refine Tj ?_;have a8:SN (m.Pc+arg)=m.Pc+arg:=qC K9 K9;go_wp2_with(fail);have a4:=HX.out.num (i:=0) (v:=J Z (m.Pc+arg)) (m':={ m with Pc:=m.Pc+arg }) rfl rfl ⟨hk.len,hk.out,⟨by show _<=m.Pc+arg;omega,by show m.Pc+arg<=_;omega⟩,hk.sp,hk.fp,hk.st,hk.va⟩ (fun _ _=>rfl);exact RI (v:=.tuple #[]) (by simp[Rv,results131,go_sem]) rfl ⟨rfl,_,_,(a4.fy gG).drop HS.out,rfl⟩
theorem zpE (h:hJ B Y W Ra gc gm I m)(he:(zr.sl 3).R Y Y.heap.size [G A2 es.length c2] es)(hes:es.length<=9223372036854775807)(ha:0<=arg/\arg<=255) :
  RD prog 131 #[.pointer (D ⟨gc,0,C⟩),.agg #[G A0 n0 c0,G A1 n1 c1,G A2 es.length c2],.agg #[J Z 12,J Z arg]] W (iz (fun m=>zA es m 12 arg) B Y Ra gc gm I m):=by
 obtain⟨gs,BB,W1,aa,a8,H0,HS,a2,a3⟩:=nz h #[G A0 n0 c0,G A1 n1 c1,G A2 es.length c2] #[J Z 12,J Z arg];go_enter func131,ntmps131;go_upto_region 1 with(fail);clear a8 aa h;obtain⟨A,c,Ao,co,y0,y1,yf,yl,z0,z1,z2,z3,z4,z5,z6,zf,zl,hk,p0,p1,a4,a5,pl,q0,q1,q2,qf,ql⟩:=H0.out.pf a2 a3;have ac:=hk.pc;go_upto_region 28 with(go_at_call 173;(with_reducible refine(zeM H0.out ac).mono ?_);rintro e w1 ⟨rfl,b1,m1,a1,ab⟩);have H1:=fh a1;clear a1;clear y0 y1 yf yl z0 z1 z2 z3 z4 z5 z6 zf zl p0 p1 a4 a5 pl q0 q1 q2 qf ql;obtain⟨A,c,Ao,co,y0,y1,yf,yl,z0,z1,z2,z3,z4,z5,z6,zf,zl,hk,p0,p1,a4,a5,pl,q0,q1,q2,qf,ql⟩:=H1.out.pf a2 a3;have a9:=Ty.up _ he H1.out.grow;by_cases hlt:arg<(es.length:Int)
 ·obtain⟨a,rfl⟩:=RE ha.1
  obtain⟨ge,ae,x,rfl,ad,af,a6,a7⟩:=lJ a9 (k:=a) K9;go_wp2_with(fail);have a0:=H1.out.num (i:=0) (v:=J Z x) (m':={ m1 with Pc:=x }) rfl rfl ⟨hk.len,hk.out,⟨a6,a7⟩,hk.sp,hk.fp,hk.st,hk.va⟩ (fun _ _=>rfl);exact RI (v:=.tuple #[]) (by simp[Rv,results131,go_sem]) rfl ⟨rfl,_,_,(a0).drop HS.out,by rw[Bs,Aq (f:=fun m=>m.Pc) rfl (K:=fun m'=>(es[(a:Int).toNat]?).map fun e=>{ m' with Pc:=e }) ab,Ry,ad];cases b1 <;> rfl⟩
 ·go_wp2_with(fail)
  have a0:=H1.out.bad M;exact RI (v:=.tuple #[]) (by simp[Rv,results131,go_sem]) rfl ⟨rfl,_,_,(a0).drop HS.out,by rw[Bs,To K9];show C=(zP m m.Pc).bind _;cases zP m m.Pc <;> rfl⟩
theorem zpF (h:hJ B Y W Ra gc gm I m)(ha:0<=arg/\arg<=255) :
  RD prog 131 #[.pointer (D ⟨gc,0,C⟩),.agg #[G A0 n0 c0,G A1 n1 c1,G A2 es.length c2],.agg #[J Z 13,J Z arg]] W (iz (fun m=>zA es m 13 arg) B Y Ra gc gm I m):=by
 obtain⟨gs,BB,W1,a9,a7,H0,HS,a3,a4⟩:=nz h #[G A0 n0 c0,G A1 n1 c1,G A2 es.length c2] #[J Z 13,J Z arg];go_enter func131,ntmps131;go_upto_region 1 with(fail);clear a7 a9 h;obtain⟨A,c,Ao,co,y0,y1,yf,yl,z0,z1,z2,z3,z4,z5,z6,zf,zl,hk,p0,p1,a0,a1,pl,q0,q1,q2,qf,ql⟩:=H0.out.pf a3 a4;have hI:fE arg:=⟨K9,K9⟩
 have a8:=hk.fp;go_upto_region 33 with(go_at_call 173;(with_reducible refine(zeM H0.out a8).mono ?_);rintro e w1 ⟨rfl,b1,m1,a5,aa⟩);have H1:=fh a5;clear a5;clear y0 y1 yf yl z0 z1 z2 z3 z4 z5 z6 zf zl p0 p1 a0 a1 pl q0 q1 q2 qf ql;obtain⟨A,c,Ao,co,y0,y1,yf,yl,z0,z1,z2,z3,z4,z5,z6,zf,zl,hk,p0,p1,a0,a1,pl,q0,q1,q2,qf,ql⟩:=H1.out.pf a3 a4;go_upto_region 34 with(fail);have a2:=H1.out.num (i:=2) (v:=J Z m1.Sp) (m':={ m1 with Fp:=m1.Sp }) rfl rfl ⟨hk.len,hk.out,hk.pc,hk.sp,hk.sp,hk.st,hk.va⟩ (fun _ _=>rfl);generalize w1.setCell _ _=w2 at a2 |-;have H2:=fh a2;clear a2;clear y0 y1 yf yl z0 z1 z2 z3 z4 z5 z6 zf zl p0 p1 a0 a1 pl q0 q1 q2 qf ql;obtain⟨A,c,Ao,co,y0,y1,yf,yl,z0,z1,z2,z3,z4,z5,z6,zf,zl,hk,p0,p1,a0,a1,pl,q0,q1,q2,qf,ql⟩:=H2.out.pf a3 a4;go_wp2_with(go_at_call 178;(with_reducible refine(zsG H2.out hI).mono ?_);rintro e w3 ⟨rfl,b3,m3,a6,ab⟩);exact RI (v:=.tuple #[]) (by simp[Rv,results131,go_sem]) rfl ⟨rfl,_,_,(a6).drop HS.out,by rw[ab,Jd,Aq (f:=fun m=>m.Fp) rfl (K:=fun m'=>oA arg.toNat { m' with Fp:=m'.Sp }) aa];cases b1 <;> rfl⟩
theorem zpH (h:hJ B Y W Ra gc gm I m)(ha:0<=arg/\arg<=255) :
  RD prog 131 #[.pointer (D ⟨gc,0,C⟩),.agg #[G A0 n0 c0,G A1 n1 c1,G A2 es.length c2],.agg #[J Z 15,J Z arg]] W (iz (fun m=>zA es m 15 arg) B Y Ra gc gm I m):=by
 obtain⟨gs,BB,W1,a2,a1,H0,HS,a4,a5⟩:=nz h #[G A0 n0 c0,G A1 n1 c1,G A2 es.length c2] #[J Z 15,J Z arg];go_enter func131,ntmps131;go_upto_region 1 with(fail);clear a1 a2 h;obtain⟨A,c,Ao,co,y0,y1,yf,yl,z0,z1,z2,z3,z4,z5,z6,zf,zl,hk,p0,p1,a6,a7,pl,q0,q1,q2,qf,ql⟩:=H0.out.pf a4 a5;have hI:fE arg:=⟨K9,K9⟩
 go_wp2_with(go_at_call 178;(with_reducible refine(zsG H0.out hI).mono ?_);rintro e w1 ⟨rfl,b1,m1,a0,a3⟩);exact RI (v:=.tuple #[]) (by simp[Rv,results131,go_sem]) rfl ⟨rfl,_,_,(a0).drop HS.out,a3⟩
theorem zpG (h:hJ B Y W Ra gc gm I m)(ha:0<=arg/\arg<=255) :
  RD prog 131 #[.pointer (D ⟨gc,0,C⟩),.agg #[G A0 n0 c0,G A1 n1 c1,G A2 es.length c2],.agg #[J Z 14,J Z arg]] W (iz (fun m=>zA es m 14 arg) B Y Ra gc gm I m):=by
 obtain⟨gs,BB,W1,ad,ac,H0,HS,a2,a3⟩:=nz h #[G A0 n0 c0,G A1 n1 c1,G A2 es.length c2] #[J Z 14,J Z arg];go_enter func131,ntmps131;go_upto_region 1 with(fail);clear ac ad h;obtain⟨A,c,Ao,co,y0,y1,yf,yl,z0,z1,z2,z3,z4,z5,z6,zf,zl,hk,p0,p1,a0,a1,pl,q0,q1,q2,qf,ql⟩:=H0.out.pf a2 a3;have hI:fE arg:=⟨K9,K9⟩
 go_upto_region 39 with(go_at_call 176;(with_reducible refine(sF H0.out).mono ?_);rintro e w1 ⟨v1,b1,m1,aj,rfl,a7,ae⟩);have H1:=fh a7;clear a7;clear y0 y1 yf yl z0 z1 z2 z3 z4 z5 z6 zf zl p0 p1 a0 a1 pl q0 q1 q2 qf ql;obtain⟨A,c,Ao,co,y0,y1,yf,yl,z0,z1,z2,z3,z4,z5,z6,zf,zl,hk,p0,p1,a0,a1,pl,q0,q1,q2,qf,ql⟩:=H1.out.pf a2 a3;go_upto_region 40 with(fail);have a4:=H1.out.num (i:=1) (v:=J Z m1.Fp) (m':={ m1 with Sp:=m1.Fp }) rfl rfl ⟨hk.len,hk.out,hk.pc,hk.fp,hk.fp,hk.st,hk.va⟩ (fun _ _=>rfl);generalize w1.setCell _ _=w2 at a4 |-;have H2:=fh a4;clear a4;clear y0 y1 yf yl z0 z1 z2 z3 z4 z5 z6 zf zl p0 p1 a0 a1 pl q0 q1 q2 qf ql;obtain⟨A,c,Ao,co,y0,y1,yf,yl,z0,z1,z2,z3,z4,z5,z6,zf,zl,hk,p0,p1,a0,a1,pl,q0,q1,q2,qf,ql⟩:=H2.out.pf a2 a3;go_upto_region 41 with(go_at_call 176;(with_reducible refine(sF H2.out).mono ?_);rintro e w3 ⟨v3,b3,m3,ak,rfl,a8,af⟩;have H3:=fh a8;obtain⟨A,c,Ao,co,y0,y1,yf,yl,z0,z1,z2,z3,z4,z5,z6,zf,zl,hk⟩:=a8.cells);have a5:=H3.out.num (i:=2) (v:=J Z v3) (m':={ m3 with Fp:=v3 }) rfl rfl ⟨hk.len,hk.out,hk.pc,hk.sp,ak,hk.st,hk.va⟩ (fun _ _=>rfl);generalize w3.setCell _ _=w4 at a5 |-;have H4:=fh a5;clear a5;clear y0 y1 yf yl z0 z1 z2 z3 z4 z5 z6 zf zl p0 p1 a0 a1 pl q0 q1 q2 qf ql;obtain⟨A,c,Ao,co,y0,y1,yf,yl,z0,z1,z2,z3,z4,z5,z6,zf,zl,hk,p0,p1,a0,a1,pl,q0,q1,q2,qf,ql⟩:=H4.out.pf a2 a3;go_upto_region 42 with(go_at_call 176;(with_reducible refine(sF H4.out).mono ?_);rintro e w5 ⟨v5,b5,m5,al,rfl,a9,ag⟩;have H5:=fh a9;obtain⟨A,c,Ao,co,y0,y1,yf,yl,z0,z1,z2,z3,z4,z5,z6,zf,zl,hk⟩:=a9.cells);have a6:=H5.out.num (i:=0) (v:=J Z v5) (m':={ m5 with Pc:=v5 }) rfl rfl ⟨hk.len,hk.out,al,hk.sp,hk.fp,hk.st,hk.va⟩ (fun _ _=>rfl);generalize w5.setCell _ _=w6 at a6 |-;have H6:=fh a6;clear a6;clear y0 y1 yf yl z0 z1 z2 z3 z4 z5 z6 zf zl p0 p1 a0 a1 pl q0 q1 q2 qf ql;obtain⟨A,c,Ao,co,y0,y1,yf,yl,z0,z1,z2,z3,z4,z5,z6,zf,zl,hk,p0,p1,a0,a1,pl,q0,q1,q2,qf,ql⟩:=H6.out.pf a2 a3;go_upto_region 43 with(go_at_call 179;(with_reducible refine(zqO H6.out hI).mono ?_);rintro e w7 ⟨rfl,b7,m7,aa,ah⟩);have H7:=fh aa;clear aa;clear y0 y1 yf yl z0 z1 z2 z3 z4 z5 z6 zf zl p0 p1 a0 a1 pl q0 q1 q2 qf ql;obtain⟨A,c,Ao,co,y0,y1,yf,yl,z0,z1,z2,z3,z4,z5,z6,zf,zl,hk,p0,p1,a0,a1,pl,q0,q1,q2,qf,ql⟩:=H7.out.pf a2 a3;go_wp2_with(go_at_call 173;(with_reducible refine(zeM H7.out aj).mono ?_);rintro e w8 ⟨rfl,b8,m8,ab,ai⟩);exact RI (v:=.tuple #[]) (by simp[Rv,results131,go_sem]) rfl ⟨rfl,_,_,(ab).drop HS.out,Gc ae af ag ah ai⟩
theorem zpI (h:hJ B Y W Ra gc gm I m)(ha:0<=arg/\arg<=65535) :
  RD prog 131 #[.pointer (D ⟨gc,0,C⟩),.agg #[G A0 n0 c0,G A1 n1 c1,G A2 es.length c2],.agg #[J Z 16,J Z arg]] W (iz (fun m=>zA es m 16 arg) B Y Ra gc gm I m):=by
 obtain⟨gs,BB,W1,ad,ac,H0,HS,a2,a3⟩:=nz h #[G A0 n0 c0,G A1 n1 c1,G A2 es.length c2] #[J Z 16,J Z arg];go_enter func131,ntmps131;go_upto_region 1 with(fail);clear ac ad h;obtain⟨A,c,Ao,co,y0,y1,yf,yl,z0,z1,z2,z3,z4,z5,z6,zf,zl,hk,p0,p1,a0,a1,pl,q0,q1,q2,qf,ql⟩:=H0.out.pf a2 a3;obtain⟨a,rfl⟩:=RE ha.1;have aa:fE ((a:Int) / 16):=⟨K9,K9⟩
 have ab:fE ((a:Int) % 16):=⟨K9,K9⟩
 go_upto_region 46 with(go_at_call 176;(with_reducible refine(sF H0.out).mono ?_);rintro e w1 ⟨v1,b1,m1,aj,rfl,a5,ae⟩);have H1:=fh a5;clear a5;clear y0 y1 yf yl z0 z1 z2 z3 z4 z5 z6 zf zl p0 p1 a0 a1 pl q0 q1 q2 qf ql;obtain⟨A,c,Ao,co,y0,y1,yf,yl,z0,z1,z2,z3,z4,z5,z6,zf,zl,hk,p0,p1,a0,a1,pl,q0,q1,q2,qf,ql⟩:=H1.out.pf a2 a3;go_upto_region 47 with(go_at_call 179;(with_reducible refine(zqO (n:=(a:Int) / 16) H1.out aa).mono ?_);rintro e w2 ⟨rfl,b2,m2,a6,af⟩);have H2:=fh a6;clear a6;clear y0 y1 yf yl z0 z1 z2 z3 z4 z5 z6 zf zl p0 p1 a0 a1 pl q0 q1 q2 qf ql;obtain⟨A,c,Ao,co,y0,y1,yf,yl,z0,z1,z2,z3,z4,z5,z6,zf,zl,hk,p0,p1,a0,a1,pl,q0,q1,q2,qf,ql⟩:=H2.out.pf a2 a3;go_upto_region 48 with(go_at_call 176;(with_reducible refine(sF H2.out).mono ?_);rintro e w3 ⟨v3,b3,m3,ak,rfl,a7,ag⟩;have H3:=fh a7;obtain⟨A,c,Ao,co,y0,y1,yf,yl,z0,z1,z2,z3,z4,z5,z6,zf,zl,hk⟩:=a7.cells);have a4:=H3.out.num (i:=0) (v:=J Z v3) (m':={ m3 with Pc:=v3 }) rfl rfl ⟨hk.len,hk.out,ak,hk.sp,hk.fp,hk.st,hk.va⟩ (fun _ _=>rfl);generalize w3.setCell _ _=w4 at a4 |-;have H4:=fh a4;clear a4;clear y0 y1 yf yl z0 z1 z2 z3 z4 z5 z6 zf zl p0 p1 a0 a1 pl q0 q1 q2 qf ql;obtain⟨A,c,Ao,co,y0,y1,yf,yl,z0,z1,z2,z3,z4,z5,z6,zf,zl,hk,p0,p1,a0,a1,pl,q0,q1,q2,qf,ql⟩:=H4.out.pf a2 a3;go_upto_region 49 with(go_at_call 179;(with_reducible refine(zqO (n:=(a:Int) % 16) H4.out ab).mono ?_);rintro e w5 ⟨rfl,b5,m5,a8,ah⟩);have H5:=fh a8;clear a8;clear y0 y1 yf yl z0 z1 z2 z3 z4 z5 z6 zf zl p0 p1 a0 a1 pl q0 q1 q2 qf ql;obtain⟨A,c,Ao,co,y0,y1,yf,yl,z0,z1,z2,z3,z4,z5,z6,zf,zl,hk,p0,p1,a0,a1,pl,q0,q1,q2,qf,ql⟩:=H5.out.pf a2 a3;go_wp2_with(go_at_call 173;(with_reducible refine(zeM H5.out aj).mono ?_);rintro e w6 ⟨rfl,b6,m6,a9,ai⟩);exact RI (v:=.tuple #[]) (by simp[Rv,results131,go_sem]) rfl ⟨rfl,_,_,(a9).drop HS.out,IS ae af ag ah ai⟩
theorem zpD (h:hJ B Y W Ra gc gm I m)(hp : -4611686018427387904<=m.Pc/\m.Pc<=4611686018427387904)(ha : -32768<=arg/\arg<=32767) :
  RD prog 131 #[.pointer (D ⟨gc,0,C⟩),.agg #[G A0 n0 c0,G A1 n1 c1,G A2 es.length c2],.agg #[J Z 11,J Z arg]] W (iz (fun m=>zA es m 11 arg) B Y Ra gc gm I m):=by
 obtain⟨gs,BB,W1,a8,a7,H0,HS,a2,a3⟩:=nz h #[G A0 n0 c0,G A1 n1 c1,G A2 es.length c2] #[J Z 11,J Z arg];go_enter func131,ntmps131;go_upto_region 1 with(fail);clear a7 a8 h;obtain⟨A,c,Ao,co,y0,y1,yf,yl,z0,z1,z2,z3,z4,z5,z6,zf,zl,hk,p0,p1,a0,a1,pl,q0,q1,q2,qf,ql⟩:=H0.out.pf a2 a3;have HP:=fh hp;clear hp;go_upto_if 101 with(go_at_call 176;(with_reducible refine(sF H0.out).mono ?_);rintro e w1 ⟨v1,b1,m1,a9,rfl,a4,a5⟩)
 have H1:=fh a4;clear a4;clear y0 y1 yf yl z0 z1 z2 z3 z4 z5 z6 zf zl p0 p1 a0 a1 pl q0 q1 q2 qf ql;obtain⟨A,c,Ao,co,y0,y1,yf,yl,z0,z1,z2,z3,z4,z5,z6,zf,zl,hk,p0,p1,a0,a1,pl,q0,q1,q2,qf,ql⟩:=H1.out.pf a2 a3;by_cases hz:v1=0
 ·subst hz
  go_upto_region 25 with(fail);refine sX 9 Fs Fs (fun wx hgx=>?_);have HX:=fh (H1.out.fy hgx);clear y0 y1 yf yl z0 z1 z2 z3 z4 z5 z6 zf zl p0 p1 a0 a1 pl q0 q1 q2 qf ql;obtain⟨A,c,Ao,co,y0,y1,yf,yl,z0,z1,z2,z3,z4,z5,z6,zf,zl,hk,p0,p1,a0,a1,pl,q0,q1,q2,qf,ql⟩:=HX.out.pf a2 a3;simp only[RZ,SH,Sm,Sx]
  repeat still_step
  refine Tj ?_;go_wp2_with(fail);have a6:=HX.out.num (i:=0) (v:=J Z (SN (m1.Pc+arg))) (m':={ m1 with Pc:=SN (m1.Pc+arg) }) rfl rfl ⟨hk.len,hk.out,Ie (m1.Pc+arg),hk.sp,hk.fp,hk.st,hk.va⟩ (fun _ _=>rfl);exact RI (v:=.tuple #[]) (by simp[Rv,results131,go_sem]) rfl ⟨rfl,_,_,(a6.fy gG).drop HS.out,Ig a5 HP.out ha⟩
 ·go_wp2_with(fail)
  exact RI (v:=.tuple #[]) (by simp[Rv,results131,go_sem]) rfl ⟨rfl,_,_,(H1.out).drop HS.out,I0 a5 hz⟩
theorem zpJ (h:hJ B Y W Ra gc gm I m)(hN:Ra<=2000000000000) :
  RD prog 131 #[.pointer (D ⟨gc,0,C⟩),.agg #[G A0 n0 c0,G A1 n1 c1,G A2 es.length c2],.agg #[J Z 17,J Z arg]] W (iz (fun m=>zA es m 17 arg) B Y (Ra+1) gc gm I m):=by
 obtain⟨gs,BB,W1,ah,af,H0,HS,ak,al⟩:=nz h #[G A0 n0 c0,G A1 n1 c1,G A2 es.length c2] #[J Z 17,J Z arg];go_enter func131,ntmps131;go_upto_region 1 with(fail);clear af ah h;obtain⟨A,c,Ao,co,y0,y1,yf,yl,z0,z1,z2,z3,z4,z5,z6,zf,zl,hk,p0,p1,an,ao,pl,q0,q1,q2,qf,ql⟩:=H0.out.pf ak al;have ai:=hk;go_upto_region 51 with(fail);have aw:m.If.length<=Ra:=ai.out;refine zX (fun w'=>Rb w' ⟨gm,4,C⟩=D (G Ao m.If.length co)) 11 Fs (zc z4) (fun hH=>?_);have hX:=H0.out.fy ((fu.refl W1).drew);generalize W1.drew=wx at hX hH |-;have HX:=fh hX;clear hX;clear y0 y1 yf yl z0 z1 z2 z3 z4 z5 z6 zf zl p0 p1 an ao pl q0 q1 q2 qf ql;obtain⟨A,c,ap,au,y0,y1,yf,yl,z0,z1,z2,z3,_,z5,z6,zf,zl,hk⟩:=HX.out.cells;have z4:=hH;refine .tq 0 [9,10,11] hH ?_;refine .tq 1 [2,3,4,8,9,10,11] hH ?_;refine .tq 2 [3,4,8,9,10,11] hH ?_;refine .tq 3 [4,8,9,10,11] hH ?_;refine .tq 4 [8,9,10,11] hH ?_;refine .tq 5 [6,7,8,9,10,11] hH ?_;refine fA.gL (i:=6) Fs rfl (fun K hK=>?_);go_simp;go_at_call 176;refine(zvi HX.out).mono ?_;rintro e w2 ⟨⟨v1,b1,m1,aa,rfl,ac,aj⟩,a9⟩;have ab:=a9 _ z4;clear a9;refine hK.out _ _ ab ?_;clear hK
 try simp only[lay]
 refine fA.gL (i:=7) Fs rfl (fun K hK=>?_);go_simp;have a4:=ac.jb (cs:=#[J Z v1]) (t:=3);have a2:=zo ab (F #[J Z v1] 3);have en:=Re w2 (F #[J Z v1] 3);refine hK.out _ _ a2 ?_;clear hK
 try simp only[lay]
 obtain⟨gn,ag⟩:∃ g,w2.heap.size=g:=⟨_,rfl⟩
 rw[ag] at a4 en |-;generalize w2.alloc _=w3 at a4 a2 en |-;obtain⟨A9,c9,S9,aq,av,ar,a0⟩:=a4;obtain⟨_,_,_,_,x4,_,_,_,_⟩:=zK a0.iF.jD;have x4:=x4.symm.trans a2;injection x4 with x4
 injection x4 with e1 e2 e3
 subst e1 e3;have a5:m1.If.length=m.If.length:=e2;have a8:=a0.iF.out;rw[a5] at a8;refine fA.gL (i:=8) Fs rfl (fun K hK=>?_);refine pY (W1:=w3) (L:=m.If.length+1) rfl (.tmp 218) (.tmp 221) lN zE a8 (ec:=[J Z v1]) (y:=v1) (B:=0) ⟨rfl,aa.1,aa.2⟩ rfl rfl rfl (by intro j u hu;have am:=Sw w3 gn j _ _ (0,0) en;rw[am];simpa using hu) rfl K9 K9 ?_;intro A7 c7 W7 S7 a6 a7 ae;have a3:=(a6.cell (blt a0.iF.jD) a0.iF.cs.2.2.2 4).trans a2;have x7:=(a6.block gm (blt a0.iF.jD) a0.iF.cs.2.2.2).trans a0.iF.jD;obtain⟨_,_,_,_,_,_,_,ax,ay⟩:=zK x7;refine hK.out _ _ a3 ?_;clear hK
 try simp only[lay]
 have hH:=a3;refine .tq 9 [10,11] a3 ?_;refine .tq 10 [11] a3 ?_;refine fA.last Fs rfl Fs (fun K hK=>?_);go_simp;refine hK.out _ _ ?_;clear hK
 try simp only[lay]
 rw[<-a5] at a7;have a1:=a0.WH a6 a7 ae;rw[a5] at a1;have ad:hJ BB Y (W7.setCell ⟨gm,4,C⟩ (G A7 (m.If.length+1) c7)) (Ra+1) gc gm b1 { m1 with If:=m1.If++[v1] }:=hJ.drop ⟨_,_,_,_,_,_,a1⟩ (fun p hp=>SV _ hp);go_wp2_with(fail);exact RI (v:=.tuple #[]) (by simp[Rv,results131,go_sem]) rfl ⟨rfl,_,_,(ad).drop HS.out,IK aj⟩
theorem hJ.up (h:hJ B Y W Ra gc gm bad m):hJ B Y W (Ra+1) gc gm bad m:=by
 obtain⟨A,c,S,Ao,co,So,h⟩:=h;exact⟨A,c,S,Ao,co,So,h.iF,⟨h.ok.len,by have:=h.ok.out;omega,h.ok.pc,h.ok.sp,h.ok.fp,h.ok.st,h.ok.va⟩,h.fy,h.lc,h.lm,h.ls,h.lo,h.kb⟩
theorem iz.up {f:fv->X fv}{B:Q (Nat × Obj)}{Y:U}{Ra gc gm:Nat}{bad:Bool}{m:fv}{r:Ending}{W':U}(h:iz f B Y Ra gc gm bad m r W'):iz f B Y (Ra+1) gc gm bad m r W':=by
 obtain⟨h1,b,m',h2,h3⟩:=h;exact⟨h1,b,m',h2.up,h3⟩
def BD (code arg:Int):Prop:=(code=1∨code=2∨code=3∨code=4∨code=10∨code=11->-32768<=arg/\arg<=32767)/\(code=16->0<=arg/\arg<=65535)/\(code=12∨code=13∨code=14∨code=15->0<=arg/\arg<=255)
theorem Nr {code:Int} (h:hJ B Y W Ra gc gm I m)(he:(zr.sl 3).R Y Y.heap.size [G A2 es.length c2] es)(hes:es.length<=9223372036854775807)(hN:Ra<=2000000000000)
  (hp : -4611686018427387904<=m.Pc/\m.Pc<=4611686018427387904) (hc:0<=code/\code<=17) (hb:BD code arg) (hI:fE arg) :
  RD prog 131 #[.pointer (D ⟨gc,0,C⟩),.agg #[G A0 n0 c0,G A1 n1 c1,G A2 es.length c2],.agg #[J Z code,J Z arg]] W (iz (fun m=>zA es m code arg) B Y (Ra+1) gc gm I m):=by
 have up:∀ r W',iz (fun m=>zA es m code arg) B Y Ra gc gm I m r W'->iz (fun m=>zA es m code arg) B Y (Ra+1) gc gm I m r W':=fun _ _ h=>h.up;have hk:code=0∨code=1∨code=2∨code=3∨code=4∨code=5∨code=6∨code=7∨code=8∨code=9∨code=10∨code=11∨code=12∨code=13∨code=14∨code=15∨code=16∨code=17:=K9;rcases hk with rfl | rfl | rfl | rfl | rfl | rfl | rfl | rfl | rfl | rfl | rfl | rfl | rfl | rfl | rfl | rfl | rfl | rfl
 ·exact(zq9 h hI).mono up
 ·exact(zra h (hb.1 K9)).mono up
 ·exact(zrb h (hb.1 K9)).mono up
 ·exact(zrc h (hb.1 K9)).mono up
 ·exact(zrd h (hb.1 K9)).mono up
 ·exact(zre h).mono up
 ·exact(zrf h).mono up
 ·exact(zrg h).mono up
 ·exact(zrh h).mono up
 ·exact(zri h).mono up
 ·exact(zpC h hp (hb.1 K9)).mono up
 ·exact(zpD h hp (hb.1 K9)).mono up
 ·exact(zpE h he hes (hb.2.2 K9)).mono up
 ·exact(zpF h (hb.2.2 K9)).mono up
 ·exact(zpG h (hb.2.2 K9)).mono up
 ·exact(zpH h (hb.2.2 K9)).mono up
 ·exact(zpI h (hb.2.1 rfl)).mono up
 ·exact zpJ h hN
end Go.Proofs.YthgbglbaemelhaaGreat
