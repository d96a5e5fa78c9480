/-
  PART.
-/
import Derived.Test.YthgbglbaemelhaaGreatM13LawSlices
import Derived.Test.YthgbglbaemelhaaGreatM15LawSlices
set_option linter.unusedVariables false
set_option linter.unusedSimpArgs false
set_option maxRecDepth 100000
set_option maxHeartbeats 8000000
namespace Go.Proofs.YthgbglbaemelhaaGreat
open Value renaming slice->G,int->J,string->V
open IntKind renaming i64->C
open Option renaming none->D,some->Z
open Obj renaming cells->F
open Bool renaming false->I,true->M
open Go renaming World->U,results->Rd,Calls->Rh,Addr->Ri
open RowKit renaming intOf->Ry
open _root_.Nat renaming add_zero->RK
open Tryz
open Go.RowKit
variable {A:X Ri}{S:Q Nat}{a b t:gB}{c:Nat}{l xs:Q gB}{w:U}
def ia (xs:Q gB)(w:U)(r:Ending)(w':U):Prop:=∃ A c S,r=.returned (G A xs.length c)/\Has (iZ.sl 160) w' [G A xs.length c] xs S/\(∀ b∈S,w.heap.size<=b)/\ft w w'
theorem ia.mk {ys:Q gB} {w':U} {n:Nat} (h:Has (iZ.sl 160) w' [G A n c] ys S)(he:ys=xs)(hn:n=ys.length)(hS:∀ b∈S,w.heap.size<=b)(hg:ft w w'):ia xs w (.returned (G A n c)) w':=by
 subst he hn;exact⟨A,c,S,rfl,h,hS,hg⟩
theorem Ex.nG (e:Ex)(h:e.wf):0<e.fold.length/\e.fold.length<=e.size:=by
 obtain⟨e',h1,h2,h3⟩:=e.ic h;rw[<-h2,e'.gj];exact⟨e'.size_pos,h3⟩
theorem gk.nG (ks:gk)(h:ks.wf):ks.len<=ks.fold.length/\ks.fold.length<=ks.size:=by
 obtain⟨k',h1,h2,h3,h4⟩:=ks.ic h;rw[<-h3,k'.gj,<-h2];exact⟨k'.kr,h4⟩
theorem Hu {W:U} {g:Nat} {e:TypeId} {W0:U} {B:Nat} (h:W.heap[g]?=Z (F #[J C t.Kind,J C t.gW,V t.Name] e (0,0)))(hR:iZ.R W0 B [J C t.Kind,J C t.gW,V t.Name] t):Has (iZ.sl e) W [G (Z ⟨g,0,D⟩) 1 1] [t] [g]:=
 ⟨pS (T:=iZ) (xs:=[t]) h ⟨[J C t.Kind,J C t.gW,V t.Name],[],[],[],rfl,rfl,pP hR W,rfl,rfl⟩ (by simp),by simp⟩
theorem NF {k a b QH:Int} (hk:2<=k/\k<=6)(ha:fD a)(hb:fD b)(h:zR (k+3) a b=QH)(w:U)(n:Nat):Rh prog 142 #[J C k,J C a,J C b] (w.drewN n) fun e w''=>e=.returned (J C QH)/\∃ m,w''=w.drewN m:=
 (ztP hk ha hb).mono (by rintro e w' ⟨rfl,rfl⟩;exact⟨by rw[h],n,rfl⟩)
theorem KU (c a b:Int):fD (zR c a b):=by
 unfold zR;split
 ·exact wU _
 ·split
  ·exact wU _
  ·split
   ·exact wU _
   ·split
    ·split <;> exact⟨by decide,by decide⟩
    ·split
     ·split <;> exact⟨by decide,by decide⟩
     ·exact⟨by decide,by decide⟩
theorem Nb (h:fT t.Kind 2 6=I):om t l=t::l:=by
 rcases yN t l with h1 | ⟨a,b,_,h2,_⟩
 ·exact h1
 ·rw[h] at h2;cases h2
theorem Nc (h:¬ l.length=2):om t l=t::l:=by
 rcases yN t l with h1 | ⟨a,b,h2,_⟩
 ·exact h1
 ·rw[h2] at h;exact absurd rfl h
theorem Nd (h:¬ a.Kind=0):om t [a,b]=t::[a,b]:=by unfold om;simp only;rw[QZ (fun hh=>h hh.2.1)]
theorem Nf (h:¬ b.Kind=0):om t [a,b]=t::[a,b]:=by unfold om;simp only;rw[QZ (fun hh=>h hh.2.2.1)]
theorem Ng (h:fT (zR (t.Kind+3) a.gW b.gW) 0 999=I):om t [a,b]=t::[a,b]:=by unfold om;simp only;rw[QZ (fun hh=>by rw[h] at hh;cases hh.2.2.2)]
theorem Nh (h0:fT t.Kind 2 6=M)(h1:a.Kind=0)(h2:b.Kind=0)(h:fT (zR (t.Kind+3) a.gW b.gW) 0 999=M):om t [a,b] = [rX (zR (t.Kind+3) a.gW b.gW)]:=by unfold om;simp only;rw[Q5 ⟨h0,h1,h2,h⟩]
theorem uk {g:Prop} (f:g:=by
  go_wp2_with(first | (go_at_call 43;(with_reducible refine(gY _ _ _ _).mono ?_);rw[HB.out];rintro e w1 ⟨rfl,rfl⟩))
  exact QU (v:=G (Z ⟨g7,o7,D⟩) (ys.length+1) c5) (by simp[Rd,results209,go_sem]) rfl (ia.mk (hH.out.fx gF) (by rw[HY.out];exact(HF.out).symm) (by simp) hS2 (hG.out.trans gF))):g:=f
theorem um {g:Prop} (f:g:=by
  go_wp2_with(first | (go_at_call 43;(with_reducible refine(gY _ _ _ _).mono ?_);rw[HB.out];rintro e w1 ⟨rfl,rfl⟩))
  exact QU (v:=G A5 (ys.length+1) c5) (by simp[Rd,results209,go_sem]) rfl (ia.mk (hH.out.fx gF) (by rw[HY.out];exact(HF.out).symm) (by simp) hS2 (hG.out.trans gF))):g:=f
theorem zvx:∀(n:Nat)(e:Ex),e.size<=n->∀{xs:Q gB}{a:Nat}{rs:Q gB}{w:U}{A:X Ri}{c:Nat},(iZ.sl 160).R w w.heap.size [G A xs.length c] xs->xs.length<=100000->e.wf->xs.drop a=e.flat++rs->
  Rh prog 209 #[G A xs.length c,J C a] w (ia e.fold w):=by
 intro n;induction n with
 | zero=>intro e he;have:=e.size_pos;omega
 | succ n ih=>
 intro e he xs a rs w A c hx aV hw hd;have hl:xs.length<=1099511627776:=by omega
 match e,he,hw,hd with
 | .node t ks,he,hw,hd=>
 obtain⟨ak,hd1⟩:=wO (show xs.drop a=t::(ks.flat++rs) from hd);have aN:a<xs.length:=(QM.1 ak).1;obtain⟨g,b7,x,hA,aP,aa,x0,x1,x2,bk,bn,bs⟩:=tG hx aN;obtain rfl:x=t:=by rw[ak] at aa;injection aa with aa;exact aa.symm
 clear ak aa
 have b4:ks.size<=xs.length:=by
  exact vA
 have aZ:=ks.nG hw.2.2;have b3:=ks.kr;have aU:ks.size<=n:=by simp only[Ex.size] at he;omega
 have aY:(a:Int)<(xs.length:Int):=by omega
 have aM:(0:Int)<=(a:Int):=by omega
 have ay:=fh hd1;have aC:Hid (iZ.R w w.heap.size [J C x.Kind,J C x.gW,V x.Name] x):=fh (sK bk bn bs);have au:=ft.refl w;clear hd1;subst hA;go_enter func209,ntmps209;go_wp2_with(first | (go_at_call 216;(with_reducible refine(zqG (t:=x) (ks:=ks) (rs:=rs) (Ty.up _ hx (au.trans gF)) hl hw hd).mono ?_);rintro e v1 ⟨AO,cO,SO,rfl,aJ,aL,ar⟩;have al:=au.trans (ft.trans (b:=_) gF ar)));have e5:Has (iZ.sl 160) v1 [G (Z ⟨w.heap.size,0,D⟩) 1 1] [x] [w.heap.size]:=Hu (zj (QO _ _) (ft.trans (b:=_) gF ar)) aC.out;have ai:∀ b∈SO,w.heap.size+1<=b:=fun b hb=>by have:=aL b hb;simp at this;omega
 go_loopw [5,7] (fun z j wr=>∃(k nx:Nat) (ys:Q gB) (qs:gk) (A5:X Ri) (c5:Nat) (S:Q Nat),z=G A5 (ys.length+1) c5/\j=J C k/\k<=ks.len/\ys.length<=100000/\Hid (k+qs.len=ks.len)/\Hid (ft w wr)/\Hid (Has (iZ.sl 160) wr [G A5 (ys.length+1) c5] (x::ys) S)/\Hid (∀ b∈S,w.heap.size<=b/\b∉SO)/\Hid (Has (zr.sl 3) wr [G AO (ks.gN (a+1)).length cO] (ks.gN (a+1)) SO)/\Hid qs.wf/\Hid (xs.drop nx=qs.flat++rs)/\Hid ((ks.gN (a+1)).drop k=qs.gN nx)/\Hid (ys++qs.fold=ks.fold)/\Hid (qs.size<=ks.size)) (fun _ j _=>ks.len-(Ry j).toNat)
 case atStart=>
  exact⟨0,a+1,[],ks,_,1,[w.heap.size],rfl,rfl,QX _,QX _,fh (by omega),fh (al.trans gF),fh (e5.fx gF),fh (fun b hb=>by simp only[QN] at hb;subst hb;exact⟨Q8 _,fun hm=>by have:=ai _ hm;omega⟩),fh (aJ.fx gF),fh hw.2.2,ay,fh rfl,fh (by simp),fh (Q8 _)⟩
 case round=>
  obtain⟨k,nx,ys,qs,A5,c5,S,rfl,rfl,b2,b6,a2,hG,hH,hS,hO,ag,ae,af,hE,a4⟩:=hrel;have hS2:∀ b∈S,w.heap.size<=b:=fun b hb=>(hS.out b hb).1
  match qs,ag,ae,hE,a2,af,a4 with
  | .nil,ag,ae,hE,a2,af,a4=>
   have HY:Hid (ys=ks.fold):=fh (by have h:=hE.out;simpa[gk.fold] using h);have aT:¬ ((k:Int)<((ks.gN (a+1)).length:Int)):=by have h:=a2.out;simp only[gk.len,RK] at h;rw[gk.ku];omega
   have x0:=za hG.out x0;have x1:=za hG.out x1;have x2:=za hG.out x2;have b1:=QS aP hG.out.size;have ab:Hid ((Ex.node x ks).fold=om x ks.fold):=fh rfl;rcases RB (fT x.Kind 2 6) with hb | hb
   rotate_left
   ·have HB:=fh hb
    have HF:Hid ((Ex.node x ks).fold=x::ks.fold):=fh (Nb hb);clear hb;exact um
   ·have HB:=fh hb
    by_cases h2:ks.fold.length=2
    rotate_left
    ·have HF:Hid ((Ex.node x ks).fold=x::ks.fold):=fh (Nc h2)
     have aW:((ys.length:Int)+1 == 3)=I:=QV.2 (by rw[HY.out];omega);clear hb h2;exact um
    ·have ah:ys.length=2:=by rw[HY.out];exact h2
     obtain⟨g7,o7,p,ao,_,a3,p0,p1,p2,pk,pn,_⟩:=tG (xs:=x::ys) hH.out.read (k:=1) (by simp[ah]);obtain⟨g8,o8,r,ad,_,a5,r0,r1,r2,rk,rn,_⟩:=tG (xs:=x::ys) hH.out.read (k:=2) (by simp[ah])
     have ax:ys = [p,r]:=by
      match ys,ah,a3,a5 with
      | [y1,y2],_,a3,a5=>
       simp at a3 a5;rw[a3,a5]
     have ac:Hid (ks.fold = [p,r]):=fh (by rw[<-HY.out];exact ax);have aW:((ys.length:Int)+1 == 3)=M:=Rt.2 (by omega);have aE:(1:Int)<(ys.length:Int)+1:=by omega
     have aF:(2:Int)<(ys.length:Int)+1:=by omega
     rw[ao] at ad;injection ad with ad
     injection ad with q1 q2
     subst q1 q2;subst ao;simp only[TV,Nat.reduceMul] at p0 p1 p2 r0 r1 r2;have b0:g7<wr.heap.size:=hH.out.lt g7 (O3 hH.out);clear a3 a5 h2 ax ah;by_cases k1:p.Kind=0
     rotate_left
     ·have HF:Hid ((Ex.node x ks).fold=x::ks.fold):=fh (by rw[ab.out,ac.out];exact Nd k1)
      have av:(p.Kind == 0)=I:=QV.2 k1;clear hb k1;exact uk
     ·by_cases k2:r.Kind=0
      rotate_left
      ·have HF:Hid ((Ex.node x ks).fold=x::ks.fold):=fh (by rw[ab.out,ac.out];exact Nf k2)
       have av:(p.Kind == 0)=M:=Rt.2 k1;have aR:(r.Kind == 0)=I:=QV.2 k2;clear hb k1 k2;exact uk
      ·have av:(p.Kind == 0)=M:=Rt.2 k1
       have aR:(r.Kind == 0)=M:=Rt.2 k2;obtain⟨QH,hV⟩:∃ QH,zR (x.Kind+3) p.gW r.gW=QH:=⟨_,rfl⟩
       have bV:fD QH:=hV ▸ KU _ _ _;have hA:=NF (zu.1 hb) pn rn hV;rcases RB (fT QH 0 999) with hv | hv
       ·have HV:=fh hv
        have HF:Hid ((Ex.node x ks).fold = [rX QH]):=fh (by rw[ab.out,ac.out,<-hV];exact Nh hb k1 k2 (by rw[hV];exact hv));have aD:=fh hV;clear hb k1 k2 hv hV;go_wp2_with(first | (go_at_call 43;(with_reducible refine(gY _ _ _ _).mono ?_);rw[HB.out];rintro e w1 ⟨rfl,rfl⟩) | (go_quiet (first | (go_at_call 142;with_reducible exact hA _ _))) | (go_at_call 43;(with_reducible refine(gY _ _ _ _).mono ?_);rw[HV.out];rintro e w1 ⟨rfl,rfl⟩));have hz:(wr.alloc (F #[J C x.Kind,J C x.gW,V x.Name] 160)).heap.size=wr.heap.size+1:=by simp
        have ap:=QO (wr.alloc (F #[J C x.Kind,J C x.gW,V x.Name] 160)) (F #[J C 0,J C QH,V ⟨#[]⟩] 160);rw[hz] at ap;refine QU (v:=G (Z ⟨wr.heap.size+1,0,D⟩) 1 1) (by simp[Rd,results209,go_sem]) rfl ?_;refine ia.mk (xs:=(Ex.node x ks).fold) (ys:=[rX QH]) (n:=1) (S:=[wr.heap.size+1]) ?_ (HF.out).symm rfl (fun b hb=>by simp only[QN] at hb;subst hb;have:=hG.out.size;omega) (hG.out.trans gF);refine Hu (t:=rX QH) (W0:=w) (B:=0) (zj ap gF) (sK ⟨?_,?_⟩ bV ?_)
        all_goals (simp only[rX];decide)
       ·have HV:=fh hv
        have HF:Hid ((Ex.node x ks).fold=x::ks.fold):=fh (by rw[ab.out,ac.out];exact Ng (by rw[hV];exact hv));have aD:=fh hV;clear hb k1 k2 hv hV;go_wp2_with(first | (go_at_call 43;(with_reducible refine(gY _ _ _ _).mono ?_);rw[HB.out];rintro e w1 ⟨rfl,rfl⟩) | (go_quiet (first | (go_at_call 142;with_reducible exact hA _ _))) | (go_at_call 43;(with_reducible refine(gY _ _ _ _).mono ?_);rw[HV.out];rintro e w1 ⟨rfl,rfl⟩));exact QU (v:=G (Z ⟨g7,o7,D⟩) (ys.length+1) c5) (by simp[Rd,results209,go_sem]) rfl (ia.mk (hH.out.fx gF) (by rw[HY.out];exact(HF.out).symm) (by simp) hS2 (hG.out.trans gF))
  | .cons ex q,ag,ae,hE,a2,af,a4=>
   have aj:xs.drop nx=ex.flat++(q.flat++rs):=by rw[ae.out];simp only[gk.flat,Rw]
   have a6:(ks.gN (a+1)).drop k=(nx:Int)::q.gN (nx+ex.size):=af.out;obtain⟨an,a7⟩:=wO a6;have a1:k<(ks.gN (a+1)).length:=(QM.1 an).1;obtain⟨go,oo,v,aG,a8,vc,_,_⟩:=lI hO.out.read a1;obtain rfl:v=(nx:Int):=by rw[an] at a8;injection a8 with a8;exact a8.symm
   have aT:(k:Int)<((ks.gN (a+1)).length:Int):=by omega
   have aQ:(0:Int)<=(k:Int):=by omega
   have aS:k<ks.len:=by rw[<-gk.ku ks (a+1)];exact a1
   have aO:ex.size<=n:=by have h:=a4.out;simp only[gk.size] at h;omega
   have am:ys.length+ex.fold.length<=100000:=by
    have h:=Sg List.length hE.out;simp only[gk.fold,QR] at h;omega
   have a9:ex.wf/\q.wf:=ag.out;have aB:=fh a7;have aA:Hid (xs.drop (nx+ex.size)=q.flat++rs):=fh (by rw[<-TH,aj,<-ex.gj,Ul]);have az:=fh aj;subst aG;clear an a7 a6 aj a8 a1;go_wp2_with(first | (go_at_call 209;(with_reducible refine(ih ex aO (Ty.up _ hx (hG.out.trans gF)) aV a9.1 az.out).mono ?_);rintro e v2 ⟨AF,cF,SF,rfl,aI,aX,aq⟩) | (refine wv (L:=ys.length+1+ex.fold.length) rfl (.tmp 24) (.tmp 30) yo pP (S:=S) (hH.out.fx (ft.trans (b:=_) gF (aq.trans gF))) (Ty.up _ aI.read gF) rfl rfl rfl rfl (by omega) (by omega) ?_;intro A8 c8 W8 S8 aw aH aK));have a0:ft wr v2:=ft.trans (b:=_) gF aq;go_roundw
   case measure=>exact gH
   case rel=>
    have b5:=a0.size;refine⟨k+1,nx+ex.size,ys++ex.fold,q,A8,c8,S8,by rw[QR];congr 1;omega,by go_num,by omega,by rw[QR];exact am,fh (by have h:=a2.out;simp only[gk.len] at h;omega),fh (aw.fx (hG.out.trans (a0.trans gF)) hS2),fh (by rw[QR,show ys.length+ex.fold.length+1=ys.length+1+ex.fold.length from by omega];simpa using aH),fh (fun b hb=>?_),fh ((hO.out.fx (a0.trans gF)).fJ aw (fun b hb hm=>(hS.out b hm).2 hb)),fh a9.2,aA,aB,fh (by rw[<-hE.out];simp[gk.fold]),fh (by have h:=a4.out;simp only[gk.size] at h;omega)⟩;rcases aK b hb with h | h
    ·exact hS.out b h
    ·have h1:=hG.out.size
     (try simp at h);exact⟨by omega,fun hm=>by have:=hO.out.lt b hm;omega⟩
theorem pR {a b:U} {k:Nat} {o:Obj} (h:fw S a b)(hn:k∉S)(hk:a.heap[k]?=Z o):b.heap[k]?=Z o:=(h.block k (blt hk) hn).trans hk
theorem PH {e:Ex} {rs:Q gB} (hx:(iZ.sl 160).R w w.heap.size [G A xs.length c] xs)(hl:xs.length<=100000)(hw:e.wf)(hd:xs.drop 0=e.flat++rs) :
  Rh prog 209 #[G A xs.length c,J C 0] w (ia e.fold w):=zvx e.size e (Q8 _) (a:=0) hx hl hw hd
theorem zqr (hx:(iZ.sl 160).R w w.heap.size [G A xs.length c] xs)(hl:xs.length<=1099511627776) :
  Rh prog 202 #[G A xs.length c] w (ia (qQ xs) w):=by
 rcases RB (py xs) with he | he
 ·obtain⟨e,hw,h1,a5,h2⟩:=yH he
  have a4:xs.length<=100000:=by omega
  have HE:=fh he;have HF:=fh h2;have HD:Hid (xs.drop 0=e.flat++[]):=fh (by rw[RZ,SC];exact h1);clear he h1 h2;go_enter func202,ntmps202;go_wp2_with(first | (go_at_call 189;(with_reducible refine(zkN hx hl).mono ?_);rw[HE.out];rintro e1 v1 ⟨rfl,a0⟩) | (go_at_call 209;(with_reducible refine(PH (Ty.up _ hx a0) a4 hw HD.out).mono ?_);rintro e2 v2 ⟨A2,c2,S2,rfl,a1,a2,a3⟩));refine QU (v:=G A2 e.fold.length c2) (by simp[Rd,results202,go_sem]) rfl ?_;exact ia.mk (a1) (HF.out).symm rfl (fun b hb=>by have h1:=a2 b hb;have h2:=a0.size;omega) (a0.trans a3)
 ·have HE:=fh he
  clear he;go_enter func202,ntmps202;go_wp2_with(first | (go_at_call 189;(with_reducible refine(zkN hx hl).mono ?_);rw[HE.out];rintro e1 v1 ⟨rfl,a0⟩));refine QU (v:=G (Z ⟨v1.heap.size,0,D⟩) 0 0) (by simp[Rd,results202,go_sem]) rfl ?_;exact ia.mk (xs:=qQ xs) (ys:=[]) (n:=0) (S:=[v1.heap.size]) (Has.emp iZ (QO _ _)) (by unfold qQ;rw[QZ (by rw[HE.out];decide)]) rfl (fun b hb=>by simp only[QN] at hb;subst hb;exact a0.size) (a0.trans gF)
end Go.Proofs.YthgbglbaemelhaaGreat
