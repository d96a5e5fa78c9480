/-
  PART.
-/
import Derived.Test.YthgbglbaemelhaaGreatM38LawSlices
import Derived.Test.YthgbglbaemelhaaGreatM40LawSlices
set_option linter.unusedVariables false
set_option linter.unusedSimpArgs false
set_option maxRecDepth 100000
set_option maxHeartbeats 8000000
namespace Go.Proofs.YthgbglbaemelhaaGreat
open Value renaming slice->G,int->J,bool->H
open IntKind renaming i64->C
open Option renaming none->D,some->Z
open Obj renaming cells->F
open Bool renaming false->I,true->M
open Go renaming World->U,results->Rd,Calls->Rh,Addr->Ri,yielded->Su
open World renaming cell?->QL,frozen?->Rb
open _root_.Int renaming toNat_natCast->Ra
open List renaming take_succ_cons->RN,take_zero->Sd
open RowKit renaming wrap64->Sf
open Region renaming wanted->Rx,ready->RL,noSelect->Tn,Mode->Ts,free->Ui
open Tryz
open Go.RowKit
variable {A0 A1 A2:X Ri}{B:Q (Nat × Obj)}{QK c0 c1 c2 gc gm n0 n1:Nat}{W Y:U}{arg:Int}{bad:Bool}{es:Q Int}{m:fy}
theorem nj (h:gX B Y W QK gc gm I m)(cs ct:Array Value):∃(gs:Nat)(BB:Q (Nat × Obj))(W1:U),W.heap.size=gs/\(W.alloc (F cs 28)).alloc (F ct 142)=W1/\Hid (gX BB Y W1 QK gc gm I m)/\Hid (∀ p∈B,p∈BB)/\(gs+1,F ct 142 (0,0))∈BB/\(gs,F cs 28 (0,0))∈BB:=by
 have h2:=(h.jF (cs:=cs) (t:=28)).jF (cs:=ct) (t:=142);rw[Rf] at h2;exact⟨_,_,_,rfl,rfl,fh h2,fh fun p hp=>Sm _ (Sm _ hp),Tc,Sm _ Tc⟩
theorem gX.pf {BB:Q (Nat × Obj)} {gs:Nat} {a b d e f:Value} (h:gX BB Y W QK gc gm bad m)(ho:(gs+1,F #[a,b] 142 (0,0))∈BB)(hs:(gs,F #[d,e,f] 28 (0,0))∈BB):∃ A c Ao co,
  QL W ⟨gc,0,D⟩=Z (.pointer (Z ⟨gm,0,D⟩))/\QL W ⟨gc,1,D⟩=Z (H bad)/\(∀ j,Rb W ⟨gc,j,D⟩=I)/\gc<W.heap.size/\
  QL W ⟨gm,0,D⟩=Z (J C m.Pc)/\QL W ⟨gm,1,D⟩=Z (J C m.Sp)/\QL W ⟨gm,2,D⟩=Z (J C m.Fp)/\QL W ⟨gm,3,D⟩=Z (G A m.Stack.length c)/\QL W ⟨gm,4,D⟩=Z (G Ao m.Out.length co)/\QL W ⟨gm,5,D⟩=Z (J C m.State)/\QL W ⟨gm,6,D⟩=Z (J C m.Value)/\(∀ j,Rb W ⟨gm,j,D⟩=I)/\gm<W.heap.size/\nB QK m/\
  QL W ⟨gs+1,0,D⟩=Z a/\QL W ⟨gs+1,1,D⟩=Z b/\Rb W ⟨gs+1,0,D⟩=I/\Rb W ⟨gs+1,1,D⟩=I/\gs+1<W.heap.size/\
  QL W ⟨gs,0,D⟩=Z d/\QL W ⟨gs,1,D⟩=Z e/\QL W ⟨gs,2,D⟩=Z f/\(∀ j,Rb W ⟨gs,j,D⟩=I)/\gs<W.heap.size:=by
 obtain⟨A,c,Ao,co,y0,y1,yf,yl,z0,z1,z2,z3,z4,z5,z6,zf,zl,hk⟩:=h.cells;obtain⟨p0,p1,a0,a1,pl⟩:=kI (h.kept ho);exact⟨A,c,Ao,co,y0,y1,yf,yl,z0,z1,z2,z3,z4,z5,z6,zf,zl,hk,p0,p1,a0,a1,pl,jc (h.kept hs)⟩
theorem zqI (h:gX B Y W QK gc gm I m)(ha:fD arg) :
  Rh prog 131 #[.pointer (Z ⟨gc,0,D⟩),.agg #[G A0 n0 c0,G A1 n1 c1,G A2 es.length c2],.agg #[J C 0,J C arg]] W (iy (fun m=>zO es m 0 arg) B Y QK gc gm I m):=by
 obtain⟨gs,BB,W1,a2,a1,H0,HS,a4,a5⟩:=nj h #[G A0 n0 c0,G A1 n1 c1,G A2 es.length c2] #[J C 0,J C arg];go_enter func131,ntmps131;go_upto_region 1 with(fail);clear a1 a2 h;obtain⟨A,c,Ao,co,y0,y1,yf,yl,z0,z1,z2,z3,z4,z5,z6,zf,zl,hk,p0,p1,a6,a7,pl,q0,q1,q2,qf,ql⟩:=H0.out.pf a4 a5;go_wp2_with(go_at_call 173;(with_reducible refine(zew H0.out ha).mono ?_);rintro e w1 ⟨rfl,b1,m1,a0,a3⟩);exact Rz (v:=.tuple #[]) (by simp[Rd,results131,go_sem]) rfl ⟨rfl,_,_,(a0).drop HS.out,a3⟩
theorem zqJ (h:gX B Y W QK gc gm I m)(ha : -32768<=arg/\arg<=32767) :
  Rh prog 131 #[.pointer (Z ⟨gc,0,D⟩),.agg #[G A0 n0 c0,G A1 n1 c1,G A2 es.length c2],.agg #[J C 1,J C arg]] W (iy (fun m=>zO es m 1 arg) B Y QK gc gm I m):=by
 obtain⟨gs,BB,W1,a6,a5,H0,HS,a0,a1⟩:=nj h #[G A0 n0 c0,G A1 n1 c1,G A2 es.length c2] #[J C 1,J C arg];go_enter func131,ntmps131;go_upto_region 1 with(fail);clear a5 a6 h;obtain⟨A,c,Ao,co,y0,y1,yf,yl,z0,z1,z2,z3,z4,z5,z6,zf,zl,hk,p0,p1,a2,a3,pl,q0,q1,q2,qf,ql⟩:=H0.out.pf a0 a1;have a7:=hk;go_upto_region 6 with(fail);refine wG 8 (by kernel_rfl) (by kernel_rfl) (fun wx hgx=>?_);have HX:=fh (H0.out.fx hgx);clear y0 y1 yf yl z0 z1 z2 z3 z4 z5 z6 zf zl p0 p1 a2 a3 pl q0 q1 q2 qf ql;obtain⟨A,c,Ao,co,y0,y1,yf,yl,z0,z1,z2,z3,z4,z5,z6,zf,zl,hk,p0,p1,a2,a3,pl,q0,q1,q2,qf,ql⟩:=HX.out.pf a0 a1;simp only[RN,Sd,RT,RZ]
 repeat still_step
 refine Ta ?_;go_wp2_with(go_at_call 174;(with_reducible refine(zuo HX.out).mono ?_);rintro e w1 ⟨rfl,b1,m1,a4,a8⟩);exact Rz (v:=.tuple #[]) (by simp[Rd,results131,go_sem]) rfl ⟨rfl,_,_,(a4).drop HS.out,by rw[a8];show (mO m _).bind _=_;rw[GS a7.fp ha];rfl⟩
theorem zqL (h:gX B Y W QK gc gm I m)(ha : -32768<=arg/\arg<=32767) :
  Rh prog 131 #[.pointer (Z ⟨gc,0,D⟩),.agg #[G A0 n0 c0,G A1 n1 c1,G A2 es.length c2],.agg #[J C 3,J C arg]] W (iy (fun m=>zO es m 3 arg) B Y QK gc gm I m):=by
 obtain⟨gs,BB,W1,a6,a5,H0,HS,a0,a1⟩:=nj h #[G A0 n0 c0,G A1 n1 c1,G A2 es.length c2] #[J C 3,J C arg];go_enter func131,ntmps131;go_upto_region 1 with(fail);clear a5 a6 h;obtain⟨A,c,Ao,co,y0,y1,yf,yl,z0,z1,z2,z3,z4,z5,z6,zf,zl,hk,p0,p1,a2,a3,pl,q0,q1,q2,qf,ql⟩:=H0.out.pf a0 a1;have a7:=hk;go_upto_region 8 with(fail);refine wG 8 (by kernel_rfl) (by kernel_rfl) (fun wx hgx=>?_);have HX:=fh (H0.out.fx hgx);clear y0 y1 yf yl z0 z1 z2 z3 z4 z5 z6 zf zl p0 p1 a2 a3 pl q0 q1 q2 qf ql;obtain⟨A,c,Ao,co,y0,y1,yf,yl,z0,z1,z2,z3,z4,z5,z6,zf,zl,hk,p0,p1,a2,a3,pl,q0,q1,q2,qf,ql⟩:=HX.out.pf a0 a1;simp only[RN,Sd,RT,RZ]
 repeat still_step
 refine Ta ?_;go_wp2_with(go_at_call 174;(with_reducible refine(zuo HX.out).mono ?_);rintro e w1 ⟨rfl,b1,m1,a4,a8⟩);exact Rz (v:=.tuple #[]) (by simp[Rd,results131,go_sem]) rfl ⟨rfl,_,_,(a4).drop HS.out,by rw[a8];show (mO m _).bind _=_;rw[GS a7.sp ha];rfl⟩
theorem zqK (h:gX B Y W QK gc gm I m)(ha : -32768<=arg/\arg<=32767) :
  Rh prog 131 #[.pointer (Z ⟨gc,0,D⟩),.agg #[G A0 n0 c0,G A1 n1 c1,G A2 es.length c2],.agg #[J C 2,J C arg]] W (iy (fun m=>zO es m 2 arg) B Y QK gc gm I m):=by
 obtain⟨gs,BB,W1,a6,a5,H0,HS,a0,a1⟩:=nj h #[G A0 n0 c0,G A1 n1 c1,G A2 es.length c2] #[J C 2,J C arg];go_enter func131,ntmps131;go_upto_region 1 with(fail);clear a5 a6 h;obtain⟨A,c,Ao,co,y0,y1,yf,yl,z0,z1,z2,z3,z4,z5,z6,zf,zl,hk,p0,p1,a2,a3,pl,q0,q1,q2,qf,ql⟩:=H0.out.pf a0 a1;have a7:=hk;go_upto_region 10 with(fail);refine wG 8 (by kernel_rfl) (by kernel_rfl) (fun wx hgx=>?_);have HX:=fh (H0.out.fx hgx);clear y0 y1 yf yl z0 z1 z2 z3 z4 z5 z6 zf zl p0 p1 a2 a3 pl q0 q1 q2 qf ql;obtain⟨A,c,Ao,co,y0,y1,yf,yl,z0,z1,z2,z3,z4,z5,z6,zf,zl,hk,p0,p1,a2,a3,pl,q0,q1,q2,qf,ql⟩:=HX.out.pf a0 a1;simp only[RN,Sd,RT,RZ]
 repeat still_step
 refine Ta ?_;go_wp2_with(go_at_call 175;(with_reducible refine(zrM HX.out).mono ?_);rintro e w1 ⟨rfl,b1,m1,a4,a8⟩);exact Rz (v:=.tuple #[]) (by simp[Rd,results131,go_sem]) rfl ⟨rfl,_,_,(a4).drop HS.out,by rw[a8];show (iq m).bind _=_;simp only[Gj a7.fp ha];rfl⟩
theorem zqM (h:gX B Y W QK gc gm I m)(ha : -32768<=arg/\arg<=32767) :
  Rh prog 131 #[.pointer (Z ⟨gc,0,D⟩),.agg #[G A0 n0 c0,G A1 n1 c1,G A2 es.length c2],.agg #[J C 4,J C arg]] W (iy (fun m=>zO es m 4 arg) B Y QK gc gm I m):=by
 obtain⟨gs,BB,W1,a6,a5,H0,HS,a0,a1⟩:=nj h #[G A0 n0 c0,G A1 n1 c1,G A2 es.length c2] #[J C 4,J C arg];go_enter func131,ntmps131;go_upto_region 1 with(fail);clear a5 a6 h;obtain⟨A,c,Ao,co,y0,y1,yf,yl,z0,z1,z2,z3,z4,z5,z6,zf,zl,hk,p0,p1,a2,a3,pl,q0,q1,q2,qf,ql⟩:=H0.out.pf a0 a1;have a7:=hk;go_upto_region 12 with(fail);refine wG 8 (by kernel_rfl) (by kernel_rfl) (fun wx hgx=>?_);have HX:=fh (H0.out.fx hgx);clear y0 y1 yf yl z0 z1 z2 z3 z4 z5 z6 zf zl p0 p1 a2 a3 pl q0 q1 q2 qf ql;obtain⟨A,c,Ao,co,y0,y1,yf,yl,z0,z1,z2,z3,z4,z5,z6,zf,zl,hk,p0,p1,a2,a3,pl,q0,q1,q2,qf,ql⟩:=HX.out.pf a0 a1;simp only[RN,Sd,RT,RZ]
 repeat still_step
 refine Ta ?_;go_wp2_with(go_at_call 175;(with_reducible refine(zrM HX.out).mono ?_);rintro e w1 ⟨rfl,b1,m1,a4,a8⟩);exact Rz (v:=.tuple #[]) (by simp[Rd,results131,go_sem]) rfl ⟨rfl,_,_,(a4).drop HS.out,by rw[a8];show (iq m).bind _=_;simp only[Gj a7.sp ha];rfl⟩
theorem rE {g:Prop} (f:g:=by
  go_enter func131,ntmps131
  go_upto_region 1 with(fail)
  clear hW1 hgs h
  obtain⟨A,c,Ao,co,y0,y1,yf,yl,z0,z1,z2,z3,z4,z5,z6,zf,zl,hk,p0,p1,pf0,pf1,pl,q0,q1,q2,qf,ql⟩:=H0.out.pf hop hsp
  go_upto_region 19 with(go_at_call 176;(with_reducible refine(rU H0.out).mono ?_);rintro e w1 ⟨v1,b1,m1,hv1,rfl,hC1,ho1⟩)
  have H1:=fh hC1
  clear hC1
  clear y0 y1 yf yl z0 z1 z2 z3 z4 z5 z6 zf zl p0 p1 pf0 pf1 pl q0 q1 q2 qf ql
  obtain⟨A,c,Ao,co,y0,y1,yf,yl,z0,z1,z2,z3,z4,z5,z6,zf,zl,hk,p0,p1,pf0,pf1,pl,q0,q1,q2,qf,ql⟩:=H1.out.pf hop hsp
  go_upto_region 20 with(go_at_call 176;(with_reducible refine(rU H1.out).mono ?_);rintro e w2 ⟨v2,b2,m2,hv2,rfl,hC2,ho2⟩)
  have H2:=fh hC2
  clear hC2
  clear y0 y1 yf yl z0 z1 z2 z3 z4 z5 z6 zf zl p0 p1 pf0 pf1 pl q0 q1 q2 qf ql
  obtain⟨A,c,Ao,co,y0,y1,yf,yl,z0,z1,z2,z3,z4,z5,z6,zf,zl,hk,p0,p1,pf0,pf1,pl,q0,q1,q2,qf,ql⟩:=H2.out.pf hop hsp
  go_wp2_with(first | (go_at_call 177;(with_reducible refine(zgF (k:=_) (a:=v2) (b:=v1) (by omega) hv2 hv1).mono ?_);rintro e w3 ⟨rfl,rfl⟩) | (go_at_call 173;(with_reducible refine(zew H2.out (I5 _ v2 v1)).mono ?_);rintro e w4 ⟨rfl,b4,m4,hC4,ho4⟩))
  exact Rz (v:=.tuple #[]) (by simp[Rd,results131,go_sem]) rfl ⟨rfl,_,_,(hC4).drop HS.out,by rw[Ln (by omega),sx (K:=fun p=>(iq p.1).bind fun q=>iD q.1 (zR _ q.2 p.2)) ho1,sx (K:=fun q=>iD q.1 (zR _ q.2 v1)) ho2];exact ho4⟩):g:=f
theorem zqN (h:gX B Y W QK gc gm I m) :
  Rh prog 131 #[.pointer (Z ⟨gc,0,D⟩),.agg #[G A0 n0 c0,G A1 n1 c1,G A2 es.length c2],.agg #[J C 5,J C arg]] W (iy (fun m=>zO es m 5 arg) B Y QK gc gm I m):=by
 obtain⟨gs,BB,W1,hgs,hW1,H0,HS,hop,hsp⟩:=nj h #[G A0 n0 c0,G A1 n1 c1,G A2 es.length c2] #[J C 5,J C arg];exact rE
theorem zqO (h:gX B Y W QK gc gm I m) :
  Rh prog 131 #[.pointer (Z ⟨gc,0,D⟩),.agg #[G A0 n0 c0,G A1 n1 c1,G A2 es.length c2],.agg #[J C 6,J C arg]] W (iy (fun m=>zO es m 6 arg) B Y QK gc gm I m):=by
 obtain⟨gs,BB,W1,hgs,hW1,H0,HS,hop,hsp⟩:=nj h #[G A0 n0 c0,G A1 n1 c1,G A2 es.length c2] #[J C 6,J C arg];exact rE
theorem zqP (h:gX B Y W QK gc gm I m) :
  Rh prog 131 #[.pointer (Z ⟨gc,0,D⟩),.agg #[G A0 n0 c0,G A1 n1 c1,G A2 es.length c2],.agg #[J C 7,J C arg]] W (iy (fun m=>zO es m 7 arg) B Y QK gc gm I m):=by
 obtain⟨gs,BB,W1,hgs,hW1,H0,HS,hop,hsp⟩:=nj h #[G A0 n0 c0,G A1 n1 c1,G A2 es.length c2] #[J C 7,J C arg];exact rE
theorem zqQ (h:gX B Y W QK gc gm I m) :
  Rh prog 131 #[.pointer (Z ⟨gc,0,D⟩),.agg #[G A0 n0 c0,G A1 n1 c1,G A2 es.length c2],.agg #[J C 8,J C arg]] W (iy (fun m=>zO es m 8 arg) B Y QK gc gm I m):=by
 obtain⟨gs,BB,W1,hgs,hW1,H0,HS,hop,hsp⟩:=nj h #[G A0 n0 c0,G A1 n1 c1,G A2 es.length c2] #[J C 8,J C arg];exact rE
theorem zqR (h:gX B Y W QK gc gm I m) :
  Rh prog 131 #[.pointer (Z ⟨gc,0,D⟩),.agg #[G A0 n0 c0,G A1 n1 c1,G A2 es.length c2],.agg #[J C 9,J C arg]] W (iy (fun m=>zO es m 9 arg) B Y QK gc gm I m):=by
 obtain⟨gs,BB,W1,hgs,hW1,H0,HS,hop,hsp⟩:=nj h #[G A0 n0 c0,G A1 n1 c1,G A2 es.length c2] #[J C 9,J C arg];exact rE
theorem zpj (h:gX B Y W QK gc gm I m)(hp : -4611686018427387904<=m.Pc/\m.Pc<=4611686018427387904)(ha : -32768<=arg/\arg<=32767) :
  Rh prog 131 #[.pointer (Z ⟨gc,0,D⟩),.agg #[G A0 n0 c0,G A1 n1 c1,G A2 es.length c2],.agg #[J C 10,J C arg]] W (iy (fun m=>zO es m 10 arg) B Y QK gc gm I m):=by
 obtain⟨gs,BB,W1,a6,a5,H0,HS,a0,a1⟩:=nj h #[G A0 n0 c0,G A1 n1 c1,G A2 es.length c2] #[J C 10,J C arg];go_enter func131,ntmps131;go_upto_region 1 with(fail);clear a5 a6 h;obtain⟨A,c,Ao,co,y0,y1,yf,yl,z0,z1,z2,z3,z4,z5,z6,zf,zl,hk,p0,p1,a2,a3,pl,q0,q1,q2,qf,ql⟩:=H0.out.pf a0 a1;have a7:=hk;go_upto_region 22 with(fail);refine wG 9 (by kernel_rfl) (by kernel_rfl) (fun wx hgx=>?_);have HX:=fh (H0.out.fx hgx);clear y0 y1 yf yl z0 z1 z2 z3 z4 z5 z6 zf zl p0 p1 a2 a3 pl q0 q1 q2 qf ql;obtain⟨A,c,Ao,co,y0,y1,yf,yl,z0,z1,z2,z3,z4,z5,z6,zf,zl,hk,p0,p1,a2,a3,pl,q0,q1,q2,qf,ql⟩:=HX.out.pf a0 a1;simp only[RN,Sd,RT,RZ]
 repeat still_step
 refine Ta ?_;have a8:Sf (m.Pc+arg)=m.Pc+arg:=rS (by omega) (by omega);go_wp2_with(fail);have a4:=HX.out.num (i:=0) (v:=J C (m.Pc+arg)) (m':={ m with Pc:=m.Pc+arg }) rfl rfl ⟨hk.len,hk.out,⟨by show _<=m.Pc+arg;omega,by show m.Pc+arg<=_;omega⟩,hk.sp,hk.fp,hk.st,hk.va⟩ (fun _ _=>rfl);exact Rz (v:=.tuple #[]) (by simp[Rd,results131,go_sem]) rfl ⟨rfl,_,_,(a4.fx gG).drop HS.out,rfl⟩
theorem zpl (h:gX B Y W QK gc gm I m)(he:(zr.sl 3).R Y Y.heap.size [G A2 es.length c2] es)(hes:es.length<=9223372036854775807)(ha:0<=arg/\arg<=255) :
  Rh prog 131 #[.pointer (Z ⟨gc,0,D⟩),.agg #[G A0 n0 c0,G A1 n1 c1,G A2 es.length c2],.agg #[J C 12,J C arg]] W (iy (fun m=>zO es m 12 arg) B Y QK gc gm I m):=by
 obtain⟨gs,BB,W1,aa,a8,H0,HS,a2,a3⟩:=nj h #[G A0 n0 c0,G A1 n1 c1,G A2 es.length c2] #[J C 12,J C arg];go_enter func131,ntmps131;go_upto_region 1 with(fail);clear a8 aa h;obtain⟨A,c,Ao,co,y0,y1,yf,yl,z0,z1,z2,z3,z4,z5,z6,zf,zl,hk,p0,p1,a4,a5,pl,q0,q1,q2,qf,ql⟩:=H0.out.pf a2 a3;have ac:=hk.pc;go_upto_region 28 with(go_at_call 173;(with_reducible refine(zew H0.out ac).mono ?_);rintro e w1 ⟨rfl,b1,m1,a1,ab⟩);have H1:=fh a1;clear a1;clear y0 y1 yf yl z0 z1 z2 z3 z4 z5 z6 zf zl p0 p1 a4 a5 pl q0 q1 q2 qf ql;obtain⟨A,c,Ao,co,y0,y1,yf,yl,z0,z1,z2,z3,z4,z5,z6,zf,zl,hk,p0,p1,a4,a5,pl,q0,q1,q2,qf,ql⟩:=H1.out.pf a2 a3;have a9:=Ty.up _ he H1.out.grow;by_cases hlt:arg<(es.length:Int)
 ·obtain⟨a,rfl⟩:=Rl ha.1
  obtain⟨ge,ae,x,rfl,ad,af,a6,a7⟩:=lI a9 (k:=a) (by omega);go_wp2_with(fail);have a0:=H1.out.num (i:=0) (v:=J C x) (m':={ m1 with Pc:=x }) rfl rfl ⟨hk.len,hk.out,⟨a6,a7⟩,hk.sp,hk.fp,hk.st,hk.va⟩ (fun _ _=>rfl);exact Rz (v:=.tuple #[]) (by simp[Rd,results131,go_sem]) rfl ⟨rfl,_,_,(a0).drop HS.out,by rw[IB,E1 (f:=fun m=>m.Pc) rfl (K:=fun m'=>(es[(a:Int).toNat]?).map fun e=>{ m' with Pc:=e }) ab,Ra,ad];cases b1 <;> rfl⟩
 ·go_wp2_with(fail)
  have a0:=H1.out.bad M;exact Rz (v:=.tuple #[]) (by simp[Rd,results131,go_sem]) rfl ⟨rfl,_,_,(a0).drop HS.out,by rw[IB,Tb (by omega)];show D=(iD m m.Pc).bind _;cases iD m m.Pc <;> rfl⟩
theorem zpm (h:gX B Y W QK gc gm I m)(ha:0<=arg/\arg<=255) :
  Rh prog 131 #[.pointer (Z ⟨gc,0,D⟩),.agg #[G A0 n0 c0,G A1 n1 c1,G A2 es.length c2],.agg #[J C 13,J C arg]] W (iy (fun m=>zO es m 13 arg) B Y QK gc gm I m):=by
 obtain⟨gs,BB,W1,a9,a7,H0,HS,a3,a4⟩:=nj h #[G A0 n0 c0,G A1 n1 c1,G A2 es.length c2] #[J C 13,J C arg];go_enter func131,ntmps131;go_upto_region 1 with(fail);clear a7 a9 h;obtain⟨A,c,Ao,co,y0,y1,yf,yl,z0,z1,z2,z3,z4,z5,z6,zf,zl,hk,p0,p1,a0,a1,pl,q0,q1,q2,qf,ql⟩:=H0.out.pf a3 a4;have hI:fD arg:=⟨by omega,by omega⟩
 have a8:=hk.fp;go_upto_region 33 with(go_at_call 173;(with_reducible refine(zew H0.out a8).mono ?_);rintro e w1 ⟨rfl,b1,m1,a5,aa⟩);have H1:=fh a5;clear a5;clear y0 y1 yf yl z0 z1 z2 z3 z4 z5 z6 zf zl p0 p1 a0 a1 pl q0 q1 q2 qf ql;obtain⟨A,c,Ao,co,y0,y1,yf,yl,z0,z1,z2,z3,z4,z5,z6,zf,zl,hk,p0,p1,a0,a1,pl,q0,q1,q2,qf,ql⟩:=H1.out.pf a3 a4;go_upto_region 34 with(fail);have a2:=H1.out.num (i:=2) (v:=J C m1.Sp) (m':={ m1 with Fp:=m1.Sp }) rfl rfl ⟨hk.len,hk.out,hk.pc,hk.sp,hk.sp,hk.st,hk.va⟩ (fun _ _=>rfl);generalize w1.setCell _ _=w2 at a2 |-;have H2:=fh a2;clear a2;clear y0 y1 yf yl z0 z1 z2 z3 z4 z5 z6 zf zl p0 p1 a0 a1 pl q0 q1 q2 qf ql;obtain⟨A,c,Ao,co,y0,y1,yf,yl,z0,z1,z2,z3,z4,z5,z6,zf,zl,hk,p0,p1,a0,a1,pl,q0,q1,q2,qf,ql⟩:=H2.out.pf a3 a4;go_wp2_with(go_at_call 178;(with_reducible refine(zrZ H2.out hI).mono ?_);rintro e w3 ⟨rfl,b3,m3,a6,ab⟩);exact Rz (v:=.tuple #[]) (by simp[Rd,results131,go_sem]) rfl ⟨rfl,_,_,(a6).drop HS.out,by rw[ab,PR,E1 (f:=fun m=>m.Fp) rfl (K:=fun m'=>ri arg.toNat { m' with Fp:=m'.Sp }) aa];cases b1 <;> rfl⟩
theorem zpo (h:gX B Y W QK gc gm I m)(ha:0<=arg/\arg<=255) :
  Rh prog 131 #[.pointer (Z ⟨gc,0,D⟩),.agg #[G A0 n0 c0,G A1 n1 c1,G A2 es.length c2],.agg #[J C 15,J C arg]] W (iy (fun m=>zO es m 15 arg) B Y QK gc gm I m):=by
 obtain⟨gs,BB,W1,a2,a1,H0,HS,a4,a5⟩:=nj h #[G A0 n0 c0,G A1 n1 c1,G A2 es.length c2] #[J C 15,J C arg];go_enter func131,ntmps131;go_upto_region 1 with(fail);clear a1 a2 h;obtain⟨A,c,Ao,co,y0,y1,yf,yl,z0,z1,z2,z3,z4,z5,z6,zf,zl,hk,p0,p1,a6,a7,pl,q0,q1,q2,qf,ql⟩:=H0.out.pf a4 a5;have hI:fD arg:=⟨by omega,by omega⟩
 go_wp2_with(go_at_call 178;(with_reducible refine(zrZ H0.out hI).mono ?_);rintro e w1 ⟨rfl,b1,m1,a0,a3⟩);exact Rz (v:=.tuple #[]) (by simp[Rd,results131,go_sem]) rfl ⟨rfl,_,_,(a0).drop HS.out,a3⟩
theorem zpn (h:gX B Y W QK gc gm I m)(ha:0<=arg/\arg<=255) :
  Rh prog 131 #[.pointer (Z ⟨gc,0,D⟩),.agg #[G A0 n0 c0,G A1 n1 c1,G A2 es.length c2],.agg #[J C 14,J C arg]] W (iy (fun m=>zO es m 14 arg) B Y QK gc gm I m):=by
 obtain⟨gs,BB,W1,ad,ac,H0,HS,a2,a3⟩:=nj h #[G A0 n0 c0,G A1 n1 c1,G A2 es.length c2] #[J C 14,J C arg];go_enter func131,ntmps131;go_upto_region 1 with(fail);clear ac ad h;obtain⟨A,c,Ao,co,y0,y1,yf,yl,z0,z1,z2,z3,z4,z5,z6,zf,zl,hk,p0,p1,a0,a1,pl,q0,q1,q2,qf,ql⟩:=H0.out.pf a2 a3;have hI:fD arg:=⟨by omega,by omega⟩
 go_upto_region 39 with(go_at_call 176;(with_reducible refine(rU H0.out).mono ?_);rintro e w1 ⟨v1,b1,m1,aj,rfl,a7,ae⟩);have H1:=fh a7;clear a7;clear y0 y1 yf yl z0 z1 z2 z3 z4 z5 z6 zf zl p0 p1 a0 a1 pl q0 q1 q2 qf ql;obtain⟨A,c,Ao,co,y0,y1,yf,yl,z0,z1,z2,z3,z4,z5,z6,zf,zl,hk,p0,p1,a0,a1,pl,q0,q1,q2,qf,ql⟩:=H1.out.pf a2 a3;go_upto_region 40 with(fail);have a4:=H1.out.num (i:=1) (v:=J C m1.Fp) (m':={ m1 with Sp:=m1.Fp }) rfl rfl ⟨hk.len,hk.out,hk.pc,hk.fp,hk.fp,hk.st,hk.va⟩ (fun _ _=>rfl);generalize w1.setCell _ _=w2 at a4 |-;have H2:=fh a4;clear a4;clear y0 y1 yf yl z0 z1 z2 z3 z4 z5 z6 zf zl p0 p1 a0 a1 pl q0 q1 q2 qf ql;obtain⟨A,c,Ao,co,y0,y1,yf,yl,z0,z1,z2,z3,z4,z5,z6,zf,zl,hk,p0,p1,a0,a1,pl,q0,q1,q2,qf,ql⟩:=H2.out.pf a2 a3;go_upto_region 41 with(go_at_call 176;(with_reducible refine(rU H2.out).mono ?_);rintro e w3 ⟨v3,b3,m3,ak,rfl,a8,af⟩;have H3:=fh a8;obtain⟨A,c,Ao,co,y0,y1,yf,yl,z0,z1,z2,z3,z4,z5,z6,zf,zl,hk⟩:=a8.cells);have a5:=H3.out.num (i:=2) (v:=J C v3) (m':={ m3 with Fp:=v3 }) rfl rfl ⟨hk.len,hk.out,hk.pc,hk.sp,ak,hk.st,hk.va⟩ (fun _ _=>rfl);generalize w3.setCell _ _=w4 at a5 |-;have H4:=fh a5;clear a5;clear y0 y1 yf yl z0 z1 z2 z3 z4 z5 z6 zf zl p0 p1 a0 a1 pl q0 q1 q2 qf ql;obtain⟨A,c,Ao,co,y0,y1,yf,yl,z0,z1,z2,z3,z4,z5,z6,zf,zl,hk,p0,p1,a0,a1,pl,q0,q1,q2,qf,ql⟩:=H4.out.pf a2 a3;go_upto_region 42 with(go_at_call 176;(with_reducible refine(rU H4.out).mono ?_);rintro e w5 ⟨v5,b5,m5,al,rfl,a9,ag⟩;have H5:=fh a9;obtain⟨A,c,Ao,co,y0,y1,yf,yl,z0,z1,z2,z3,z4,z5,z6,zf,zl,hk⟩:=a9.cells);have a6:=H5.out.num (i:=0) (v:=J C v5) (m':={ m5 with Pc:=v5 }) rfl rfl ⟨hk.len,hk.out,al,hk.sp,hk.fp,hk.st,hk.va⟩ (fun _ _=>rfl);generalize w5.setCell _ _=w6 at a6 |-;have H6:=fh a6;clear a6;clear y0 y1 yf yl z0 z1 z2 z3 z4 z5 z6 zf zl p0 p1 a0 a1 pl q0 q1 q2 qf ql;obtain⟨A,c,Ao,co,y0,y1,yf,yl,z0,z1,z2,z3,z4,z5,z6,zf,zl,hk,p0,p1,a0,a1,pl,q0,q1,q2,qf,ql⟩:=H6.out.pf a2 a3;go_upto_region 43 with(go_at_call 179;(with_reducible refine(zqn H6.out hI).mono ?_);rintro e w7 ⟨rfl,b7,m7,aa,ah⟩);have H7:=fh aa;clear aa;clear y0 y1 yf yl z0 z1 z2 z3 z4 z5 z6 zf zl p0 p1 a0 a1 pl q0 q1 q2 qf ql;obtain⟨A,c,Ao,co,y0,y1,yf,yl,z0,z1,z2,z3,z4,z5,z6,zf,zl,hk,p0,p1,a0,a1,pl,q0,q1,q2,qf,ql⟩:=H7.out.pf a2 a3;go_wp2_with(go_at_call 173;(with_reducible refine(zew H7.out aj).mono ?_);rintro e w8 ⟨rfl,b8,m8,ab,ai⟩);exact Rz (v:=.tuple #[]) (by simp[Rd,results131,go_sem]) rfl ⟨rfl,_,_,(ab).drop HS.out,MG ae af ag ah ai⟩
theorem zpp (h:gX B Y W QK gc gm I m)(ha:0<=arg/\arg<=65535) :
  Rh prog 131 #[.pointer (Z ⟨gc,0,D⟩),.agg #[G A0 n0 c0,G A1 n1 c1,G A2 es.length c2],.agg #[J C 16,J C arg]] W (iy (fun m=>zO es m 16 arg) B Y QK gc gm I m):=by
 obtain⟨gs,BB,W1,ad,ac,H0,HS,a2,a3⟩:=nj h #[G A0 n0 c0,G A1 n1 c1,G A2 es.length c2] #[J C 16,J C arg];go_enter func131,ntmps131;go_upto_region 1 with(fail);clear ac ad h;obtain⟨A,c,Ao,co,y0,y1,yf,yl,z0,z1,z2,z3,z4,z5,z6,zf,zl,hk,p0,p1,a0,a1,pl,q0,q1,q2,qf,ql⟩:=H0.out.pf a2 a3;obtain⟨a,rfl⟩:=Rl ha.1;have aa:fD ((a:Int) / 16):=⟨by omega,by omega⟩
 have ab:fD ((a:Int) % 16):=⟨by omega,by omega⟩
 go_upto_region 46 with(go_at_call 176;(with_reducible refine(rU H0.out).mono ?_);rintro e w1 ⟨v1,b1,m1,aj,rfl,a5,ae⟩);have H1:=fh a5;clear a5;clear y0 y1 yf yl z0 z1 z2 z3 z4 z5 z6 zf zl p0 p1 a0 a1 pl q0 q1 q2 qf ql;obtain⟨A,c,Ao,co,y0,y1,yf,yl,z0,z1,z2,z3,z4,z5,z6,zf,zl,hk,p0,p1,a0,a1,pl,q0,q1,q2,qf,ql⟩:=H1.out.pf a2 a3;go_upto_region 47 with(go_at_call 179;(with_reducible refine(zqn (n:=(a:Int) / 16) H1.out aa).mono ?_);rintro e w2 ⟨rfl,b2,m2,a6,af⟩);have H2:=fh a6;clear a6;clear y0 y1 yf yl z0 z1 z2 z3 z4 z5 z6 zf zl p0 p1 a0 a1 pl q0 q1 q2 qf ql;obtain⟨A,c,Ao,co,y0,y1,yf,yl,z0,z1,z2,z3,z4,z5,z6,zf,zl,hk,p0,p1,a0,a1,pl,q0,q1,q2,qf,ql⟩:=H2.out.pf a2 a3;go_upto_region 48 with(go_at_call 176;(with_reducible refine(rU H2.out).mono ?_);rintro e w3 ⟨v3,b3,m3,ak,rfl,a7,ag⟩;have H3:=fh a7;obtain⟨A,c,Ao,co,y0,y1,yf,yl,z0,z1,z2,z3,z4,z5,z6,zf,zl,hk⟩:=a7.cells);have a4:=H3.out.num (i:=0) (v:=J C v3) (m':={ m3 with Pc:=v3 }) rfl rfl ⟨hk.len,hk.out,ak,hk.sp,hk.fp,hk.st,hk.va⟩ (fun _ _=>rfl);generalize w3.setCell _ _=w4 at a4 |-;have H4:=fh a4;clear a4;clear y0 y1 yf yl z0 z1 z2 z3 z4 z5 z6 zf zl p0 p1 a0 a1 pl q0 q1 q2 qf ql;obtain⟨A,c,Ao,co,y0,y1,yf,yl,z0,z1,z2,z3,z4,z5,z6,zf,zl,hk,p0,p1,a0,a1,pl,q0,q1,q2,qf,ql⟩:=H4.out.pf a2 a3;go_upto_region 49 with(go_at_call 179;(with_reducible refine(zqn (n:=(a:Int) % 16) H4.out ab).mono ?_);rintro e w5 ⟨rfl,b5,m5,a8,ah⟩);have H5:=fh a8;clear a8;clear y0 y1 yf yl z0 z1 z2 z3 z4 z5 z6 zf zl p0 p1 a0 a1 pl q0 q1 q2 qf ql;obtain⟨A,c,Ao,co,y0,y1,yf,yl,z0,z1,z2,z3,z4,z5,z6,zf,zl,hk,p0,p1,a0,a1,pl,q0,q1,q2,qf,ql⟩:=H5.out.pf a2 a3;go_wp2_with(go_at_call 173;(with_reducible refine(zew H5.out aj).mono ?_);rintro e w6 ⟨rfl,b6,m6,a9,ai⟩);exact Rz (v:=.tuple #[]) (by simp[Rd,results131,go_sem]) rfl ⟨rfl,_,_,(a9).drop HS.out,Pm ae af ag ah ai⟩
theorem zpk (h:gX B Y W QK gc gm I m)(hp : -4611686018427387904<=m.Pc/\m.Pc<=4611686018427387904)(ha : -32768<=arg/\arg<=32767) :
  Rh prog 131 #[.pointer (Z ⟨gc,0,D⟩),.agg #[G A0 n0 c0,G A1 n1 c1,G A2 es.length c2],.agg #[J C 11,J C arg]] W (iy (fun m=>zO es m 11 arg) B Y QK gc gm I m):=by
 obtain⟨gs,BB,W1,a8,a7,H0,HS,a2,a3⟩:=nj h #[G A0 n0 c0,G A1 n1 c1,G A2 es.length c2] #[J C 11,J C arg];go_enter func131,ntmps131;go_upto_region 1 with(fail);clear a7 a8 h;obtain⟨A,c,Ao,co,y0,y1,yf,yl,z0,z1,z2,z3,z4,z5,z6,zf,zl,hk,p0,p1,a0,a1,pl,q0,q1,q2,qf,ql⟩:=H0.out.pf a2 a3;have HP:=fh hp;clear hp;go_upto_if 101 with(go_at_call 176;(with_reducible refine(rU H0.out).mono ?_);rintro e w1 ⟨v1,b1,m1,a9,rfl,a4,a5⟩)
 have H1:=fh a4;clear a4;clear y0 y1 yf yl z0 z1 z2 z3 z4 z5 z6 zf zl p0 p1 a0 a1 pl q0 q1 q2 qf ql;obtain⟨A,c,Ao,co,y0,y1,yf,yl,z0,z1,z2,z3,z4,z5,z6,zf,zl,hk,p0,p1,a0,a1,pl,q0,q1,q2,qf,ql⟩:=H1.out.pf a2 a3;by_cases hz:v1=0
 ·subst hz
  go_upto_region 25 with(fail);refine wG 9 (by kernel_rfl) (by kernel_rfl) (fun wx hgx=>?_);have HX:=fh (H1.out.fx hgx);clear y0 y1 yf yl z0 z1 z2 z3 z4 z5 z6 zf zl p0 p1 a0 a1 pl q0 q1 q2 qf ql;obtain⟨A,c,Ao,co,y0,y1,yf,yl,z0,z1,z2,z3,z4,z5,z6,zf,zl,hk,p0,p1,a0,a1,pl,q0,q1,q2,qf,ql⟩:=HX.out.pf a2 a3;simp only[RN,Sd,RT,RZ]
  repeat still_step
  refine Ta ?_;go_wp2_with(fail);have a6:=HX.out.num (i:=0) (v:=J C (Sf (m1.Pc+arg))) (m':={ m1 with Pc:=Sf (m1.Pc+arg) }) rfl rfl ⟨hk.len,hk.out,Oc (m1.Pc+arg),hk.sp,hk.fp,hk.st,hk.va⟩ (fun _ _=>rfl);exact Rz (v:=.tuple #[]) (by simp[Rd,results131,go_sem]) rfl ⟨rfl,_,_,(a6.fx gG).drop HS.out,Od a5 HP.out ha⟩
 ·go_wp2_with(fail)
  exact Rz (v:=.tuple #[]) (by simp[Rd,results131,go_sem]) rfl ⟨rfl,_,_,(H1.out).drop HS.out,PQ a5 hz⟩
theorem zpq (h:gX B Y W QK gc gm I m)(hN:QK<=2000000000000) :
  Rh prog 131 #[.pointer (Z ⟨gc,0,D⟩),.agg #[G A0 n0 c0,G A1 n1 c1,G A2 es.length c2],.agg #[J C 17,J C arg]] W (iy (fun m=>zO es m 17 arg) B Y (QK+1) gc gm I m):=by
 obtain⟨gs,BB,W1,ah,af,H0,HS,ak,al⟩:=nj h #[G A0 n0 c0,G A1 n1 c1,G A2 es.length c2] #[J C 17,J C arg];go_enter func131,ntmps131;go_upto_region 1 with(fail);clear af ah h;obtain⟨A,c,Ao,co,y0,y1,yf,yl,z0,z1,z2,z3,z4,z5,z6,zf,zl,hk,p0,p1,an,ao,pl,q0,q1,q2,qf,ql⟩:=H0.out.pf ak al;have ai:=hk;go_upto_region 51 with(fail);have aw:m.Out.length<=QK:=ai.out;refine jT (fun w'=>QL w' ⟨gm,4,D⟩=Z (G Ao m.Out.length co)) 11 (by kernel_rfl) (zc z4) (fun hH=>?_);have hX:=H0.out.fx ((ft.refl W1).drew);generalize W1.drew=wx at hX hH |-;have HX:=fh hX;clear hX;clear y0 y1 yf yl z0 z1 z2 z3 z4 z5 z6 zf zl p0 p1 an ao pl q0 q1 q2 qf ql;obtain⟨A,c,ap,au,y0,y1,yf,yl,z0,z1,z2,z3,_,z5,z6,zf,zl,hk⟩:=HX.out.cells;have z4:=hH;refine .tq 0 [9,10,11] hH ?_;refine .tq 1 [2,3,4,8,9,10,11] hH ?_;refine .tq 2 [3,4,8,9,10,11] hH ?_;refine .tq 3 [4,8,9,10,11] hH ?_;refine .tq 4 [8,9,10,11] hH ?_;refine .tq 5 [6,7,8,9,10,11] hH ?_;refine fA.gQ (i:=6) (by kernel_rfl) rfl (fun K hK=>?_);go_simp;go_at_call 176;refine(zuD HX.out).mono ?_;rintro e w2 ⟨⟨v1,b1,m1,aa,rfl,ac,aj⟩,a9⟩;have ab:=a9 _ z4;clear a9;refine hK.out _ _ ab ?_;clear hK
 try simp only[lay]
 refine fA.gQ (i:=7) (by kernel_rfl) rfl (fun K hK=>?_);go_simp;have a4:=ac.jF (cs:=#[J C v1]) (t:=3);have a2:=zk ab (F #[J C v1] 3);have en:=QO w2 (F #[J C v1] 3);refine hK.out _ _ a2 ?_;clear hK
 try simp only[lay]
 obtain⟨gn,ag⟩:∃ g,w2.heap.size=g:=⟨_,rfl⟩
 rw[ag] at a4 en |-;generalize w2.alloc _=w3 at a4 a2 en |-;obtain⟨A9,c9,S9,aq,av,ar,a0⟩:=a4;obtain⟨_,_,_,_,x4,_,_,_,_⟩:=zS a0.iF.jw;have x4:=x4.symm.trans a2;injection x4 with x4
 injection x4 with e1 e2 e3
 subst e1 e3;have a5:m1.Out.length=m.Out.length:=e2;have a8:=a0.iF.out;rw[a5] at a8;refine fA.gQ (i:=8) (by kernel_rfl) rfl (fun K hK=>?_);refine zW (W1:=w3) (L:=m.Out.length+1) rfl (.tmp 218) (.tmp 221) mg zD a8 (ec:=[J C v1]) (y:=v1) (B:=0) ⟨rfl,aa.1,aa.2⟩ rfl rfl rfl (by intro j u hu;have am:=RV w3 gn j _ _ (0,0) en;rw[am];simpa using hu) rfl (by omega) (by omega) ?_;intro A7 c7 W7 S7 a6 a7 ae;have a3:=(a6.cell (blt a0.iF.jw) a0.iF.cs.2.2.2 4).trans a2;have x7:=(a6.block gm (blt a0.iF.jw) a0.iF.cs.2.2.2).trans a0.iF.jw;obtain⟨_,_,_,_,_,_,_,ax,ay⟩:=zS x7;refine hK.out _ _ a3 ?_;clear hK
 try simp only[lay]
 have hH:=a3;refine .tq 9 [10,11] a3 ?_;refine .tq 10 [11] a3 ?_;refine fA.last (by kernel_rfl) rfl (by kernel_rfl) (fun K hK=>?_);go_simp;refine hK.out _ _ ?_;clear hK
 try simp only[lay]
 rw[<-a5] at a7;have a1:=a0.app a6 a7 ae;rw[a5] at a1;have ad:gX BB Y (W7.setCell ⟨gm,4,D⟩ (G A7 (m.Out.length+1) c7)) (QK+1) gc gm b1 { m1 with Out:=m1.Out++[v1] }:=gX.drop ⟨_,_,_,_,_,_,a1⟩ (fun p hp=>Sm _ hp);go_wp2_with(fail);exact Rz (v:=.tuple #[]) (by simp[Rd,results131,go_sem]) rfl ⟨rfl,_,_,(ad).drop HS.out,Pj aj⟩
theorem gX.up (h:gX B Y W QK gc gm bad m):gX B Y W (QK+1) gc gm bad m:=by
 obtain⟨A,c,S,Ao,co,So,h⟩:=h;exact⟨A,c,S,Ao,co,So,h.iF,⟨h.ok.len,by have:=h.ok.out;omega,h.ok.pc,h.ok.sp,h.ok.fp,h.ok.st,h.ok.va⟩,h.fx,h.lc,h.lm,h.ls,h.lo,h.kb⟩
theorem iy.up {f:fy->X fy}{B:Q (Nat × Obj)}{Y:U}{QK gc gm:Nat}{bad:Bool}{m:fy}{r:Ending}{W':U}(h:iy f B Y QK gc gm bad m r W'):iy f B Y (QK+1) gc gm bad m r W':=by
 obtain⟨h1,b,m',h2,h3⟩:=h;exact⟨h1,b,m',h2.up,h3⟩
def IN (code arg:Int):Prop:=(code=1∨code=2∨code=3∨code=4∨code=10∨code=11->-32768<=arg/\arg<=32767)/\(code=16->0<=arg/\arg<=65535)/\(code=12∨code=13∨code=14∨code=15->0<=arg/\arg<=255)
theorem MN {code:Int} (h:gX B Y W QK gc gm I m)(he:(zr.sl 3).R Y Y.heap.size [G A2 es.length c2] es)(hes:es.length<=9223372036854775807)(hN:QK<=2000000000000)
  (hp : -4611686018427387904<=m.Pc/\m.Pc<=4611686018427387904) (hc:0<=code/\code<=17) (hb:IN code arg) (hI:fD arg) :
  Rh prog 131 #[.pointer (Z ⟨gc,0,D⟩),.agg #[G A0 n0 c0,G A1 n1 c1,G A2 es.length c2],.agg #[J C code,J C arg]] W (iy (fun m=>zO es m code arg) B Y (QK+1) gc gm I m):=by
 have up:∀ r W',iy (fun m=>zO es m code arg) B Y QK gc gm I m r W'->iy (fun m=>zO es m code arg) B Y (QK+1) gc gm I m r W':=fun _ _ h=>h.up;have hk:code=0∨code=1∨code=2∨code=3∨code=4∨code=5∨code=6∨code=7∨code=8∨code=9∨code=10∨code=11∨code=12∨code=13∨code=14∨code=15∨code=16∨code=17:=by omega
 rcases hk with rfl | rfl | rfl | rfl | rfl | rfl | rfl | rfl | rfl | rfl | rfl | rfl | rfl | rfl | rfl | rfl | rfl | rfl
 ·exact(zqI h hI).mono up
 ·exact(zqJ h (hb.1 (by omega))).mono up
 ·exact(zqK h (hb.1 (by omega))).mono up
 ·exact(zqL h (hb.1 (by omega))).mono up
 ·exact(zqM h (hb.1 (by omega))).mono up
 ·exact(zqN h).mono up
 ·exact(zqO h).mono up
 ·exact(zqP h).mono up
 ·exact(zqQ h).mono up
 ·exact(zqR h).mono up
 ·exact(zpj h hp (hb.1 (by omega))).mono up
 ·exact(zpk h hp (hb.1 (by omega))).mono up
 ·exact(zpl h he hes (hb.2.2 (by omega))).mono up
 ·exact(zpm h (hb.2.2 (by omega))).mono up
 ·exact(zpn h (hb.2.2 (by omega))).mono up
 ·exact(zpo h (hb.2.2 (by omega))).mono up
 ·exact(zpp h (hb.2.1 rfl)).mono up
 ·exact zpq h hN
end Go.Proofs.YthgbglbaemelhaaGreat
