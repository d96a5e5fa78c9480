/-
  PART.
-/
import Derived.Test.YtiihkapmggfjkaaGreatM17LawMakeDebug
import Derived.Test.YtiihkapmggfjkaaGreatM20LawMakeDebug
set_option linter.unusedVariables false
set_option linter.unusedSimpArgs false
set_option maxRecDepth 100000
set_option maxHeartbeats 8000000
namespace Go.Proofs.YtiihkapmggfjkaaGreat
open Value renaming slice->J,int->F,bool->X,string->G
open IntKind renaming i64->I
open Option renaming none->V,some->H,map_some->Nk
open Obj renaming cells->C
open Bool renaming false->U,true->M
open Go renaming World->N,results->Ly,Value->LA,Calls->LR,Addr->Mh,yielded->NA
open World renaming cell?->Lg
open List renaming length_nil->Mk,nil_append->Mw
open RowKit renaming intOf->Ml
open Region renaming wanted->MI,ready->MK,Mode->Nz,noSelect->ND,free->Oq
open Tryz
open Go.RowKit
variable {A A0 A1:K Mh}{B c c0 c1 n:Nat}{S:Q Nat}{K5 k:Int}{W w w':N}{a b t:gu}{e:TypeId}{l rs xs:Q gu}{o:Obj}{v:D}{x:fG}
def gV (xs:Q gu)(w:N)(r:Ending)(w':N):Prop:=∃ A c S,r=.returned (J A xs.length c)/\Has (iz.sl 159) w' [J A xs.length c] xs S/\(∀ b∈S,w.heap.size<=b)/\fF w w'
theorem gV.mk {ys:Q gu} (h:Has (iz.sl 159) w' [J A n c] ys S)(he:ys=xs)(hn:n=ys.length)(hS:∀ b∈S,w.heap.size<=b)(hg:fF w w'):gV xs w (.returned (J A n c)) w':=by
 subst he hn;exact⟨A,c,S,rfl,h,hS,hg⟩
theorem Ex.jN (e:Ex)(h:e.wf):0<e.fold.length/\e.fold.length<=e.size:=by
 obtain⟨e',h1,h2,h3⟩:=e.iK h;rw[<-h2,e'.gw];exact⟨e'.size_pos,h3⟩
theorem gj.jN (ks:gj)(h:ks.wf):ks.len<=ks.fold.length/\ks.fold.length<=ks.size:=by
 obtain⟨k',h1,h2,h3,h4⟩:=ks.iK h;rw[<-h3,k'.gw,<-h2];exact⟨k'.jd,h4⟩
theorem zd {g:Nat} {W0:N} (h:W.heap[g]?=H (C #[F I t.Kind,F I t.gN,G t.Name] e (0,0)))(hR:iz.R W0 B [F I t.Kind,F I t.gN,G t.Name] t):Has (iz.sl e) W [J (H ⟨g,0,V⟩) 1 1] [t] [g]:=
 ⟨qq (T:=iz) (xs:=[t]) h ⟨[F I t.Kind,F I t.gN,G t.Name],[],[],[],rfl,rfl,vi hR W,rfl,rfl⟩ (by simp),by simp⟩
theorem IE {a b:Int} (hk:2<=k/\k<=6)(ha:fV a)(hb:fV b)(h:jh (k+3) a b=K5)(w:N)(n:Nat):LR prog 267 #[F I k,F I a,F I b] (w.drewN n) fun e w''=>e=.returned (F I K5)/\∃ m,w''=w.drewN m:=
 (zqH hk ha hb).mono (by rintro e w' ⟨rfl,rfl⟩;exact⟨by rw[h],n,rfl⟩)
theorem IF {a b:Int} (hk:2<=k/\k<=6)(ha:fV a)(hb:fV b)(h:jh (k+3) a b=K5)(w:N)(n:Nat):LR prog 254 #[F I k,F I a,F I b] (w.drewN n) fun e w''=>e=.returned (F I K5)/\∃ m,w''=w.drewN m:=
 (zqI hk ha hb).mono (by rintro e w' ⟨rfl,rfl⟩;exact⟨by rw[h],n,rfl⟩)
theorem CG (c a b:Int):fV (jh c a b):=by
 unfold jh;split
 ·exact AH _
 ·split
  ·exact AH _
  ·split
   ·exact AH _
   ·split
    ·split <;> exact⟨by decide,by decide⟩
    ·split
     ·split <;> exact⟨by decide,by decide⟩
     ·exact⟨by decide,by decide⟩
theorem Df (h:gW t.Kind 2 6=U):mQ t l=t::l:=by
 rcases vJ t l with h1 | ⟨a,b,_,h2,_⟩
 ·exact h1
 ·rw[h] at h2;cases h2
theorem Dg (h:¬ l.length=2):mQ t l=t::l:=by
 rcases vJ t l with h1 | ⟨a,b,h2,_⟩
 ·exact h1
 ·rw[h2] at h;exact absurd rfl h
theorem Dh (h:¬ a.Kind=0):mQ t [a,b]=t::[a,b]:=by unfold mQ;simp only;rw[Lt (fun hh=>h hh.2.1)]
theorem Di (h:¬ b.Kind=0):mQ t [a,b]=t::[a,b]:=by unfold mQ;simp only;rw[Lt (fun hh=>h hh.2.2.1)]
theorem Dj (h:gW (jh (t.Kind+3) a.gN b.gN) 0 999=U):mQ t [a,b]=t::[a,b]:=by unfold mQ;simp only;rw[Lt (fun hh=>by rw[h] at hh;cases hh.2.2.2)]
theorem Dk (h0:gW t.Kind 2 6=M)(h1:a.Kind=0)(h2:b.Kind=0)(h:gW (jh (t.Kind+3) a.gN b.gN) 0 999=M):mQ t [a,b] = [oV (jh (t.Kind+3) a.gN b.gN)]:=by unfold mQ;simp only;rw[Lu ⟨h0,h1,h2,h⟩]
theorem rS {g:Prop} (f:g:=by
  go_wp2_with(first | (go_at_call 33;(with_reducible refine(lj _ _ _ _).mono ?_);rw[HB.out];rintro e w1 ⟨rfl,rfl⟩))
  exact Ln (v:=J (H ⟨g7,o7,V⟩) (ys.length+1) c5) (by simp[Ly,results237,go_sem]) rfl (gV.mk (hH.out.fO gF) (by rw[HY.out];exact(HF.out).symm) (by simp) hS2 (hG.out.trans gF))):g:=f
theorem rV {g:Prop} (f:g:=by
  go_wp2_with(first | (go_at_call 33;(with_reducible refine(lj _ _ _ _).mono ?_);rw[HB.out];rintro e w1 ⟨rfl,rfl⟩))
  exact Ln (v:=J A5 (ys.length+1) c5) (by simp[Ly,results237,go_sem]) rfl (gV.mk (hH.out.fO gF) (by rw[HY.out];exact(HF.out).symm) (by simp) hS2 (hG.out.trans gF))):g:=f
theorem sV {g:Prop} (f:g:=by
  refine zd (t:=oV K5) (W0:=w) (B:=0) (zj hb9 gF) (yy ⟨?_,?_⟩ bV ?_)
  all_goals (simp only[oV];decide)):g:=f
theorem zsl:∀(n:Nat)(e:Ex),e.size<=n->∀{xs:Q gu}{a:Nat}{rs:Q gu}{w:N}{A:K Mh}{c:Nat},(iz.sl 159).R w w.heap.size [J A xs.length c] xs->xs.length<=100000->e.wf->xs.drop a=e.flat++rs->
  LR prog 237 #[J A xs.length c,F I a] w (gV e.fold w):=by
 intro n;induction n with
 | zero=>intro e he;have:=e.size_pos;omega
 | succ n ih=>
 intro e he xs a rs w A c hx aU hw hd;have hl:xs.length<=1099511627776:=by omega
 match e,he,hw,hd with
 | .node t ks,he,hw,hd=>
 obtain⟨ak,hd1⟩:=pw (show xs.drop a=t::(ks.flat++rs) from hd);have aM:a<xs.length:=(Lh.1 ak).1;obtain⟨g,b6,x,hA,aO,aa,x0,x1,x2,bk,bn,bs⟩:=mj hx aM;obtain rfl:x=t:=by rw[ak] at aa;injection aa with aa;exact aa.symm
 clear ak aa
 have b3:ks.size<=xs.length:=by
  exact n8
 have aY:=ks.jN hw.2.2;have b2:=ks.jd;have aT:ks.size<=n:=by simp only[Ex.size] at he;omega
 have aX:(a:Int)<(xs.length:Int):=by omega
 have aL:(0:Int)<=(a:Int):=by omega
 have ax:=fE hd1;have aB:Hid (iz.R w w.heap.size [F I x.Kind,F I x.gN,G x.Name] x):=fE (yy bk bn bs);have ar:=fF.refl w;clear hd1;subst hA;go_enter func237,ntmps237;go_wp2_with(first | (go_at_call 253;(with_reducible refine(zoI (t:=x) (ks:=ks) (rs:=rs) (Ty.up _ hx (ar.trans gF)) hl hw hd).mono ?_);rintro e v1 ⟨AO,cO,SO,rfl,aI,aK,aq⟩;have al:=ar.trans (fF.trans (b:=_) gF aq)));have e5:Has (iz.sl 159) v1 [J (H ⟨w.heap.size,0,V⟩) 1 1] [x] [w.heap.size]:=zd (zj (Lp _ _) (fF.trans (b:=_) gF aq)) aB.out;have ai:∀ b∈SO,w.heap.size+1<=b:=fun b hb=>by have:=aK b hb;simp at this;omega
 go_loopw [5,7] (fun z j wr=>∃(k nx:Nat) (ys:Q gu) (qs:gj) (A5:K Mh) (c5:Nat) (S:Q Nat),z=J A5 (ys.length+1) c5/\j=F I k/\k<=ks.len/\ys.length<=100000/\Hid (k+qs.len=ks.len)/\Hid (fF w wr)/\Hid (Has (iz.sl 159) wr [J A5 (ys.length+1) c5] (x::ys) S)/\Hid (∀ b∈S,w.heap.size<=b/\b∉SO)/\Hid (Has (zF.sl 3) wr [J AO (ks.gD (a+1)).length cO] (ks.gD (a+1)) SO)/\Hid qs.wf/\Hid (xs.drop nx=qs.flat++rs)/\Hid ((ks.gD (a+1)).drop k=qs.gD nx)/\Hid (ys++qs.fold=ks.fold)/\Hid (qs.size<=ks.size)) (fun _ j _=>ks.len-(Ml j).toNat)
 case atStart=>
  exact⟨0,a+1,[],ks,_,1,[w.heap.size],rfl,rfl,Lv _,Lv _,fE (by omega),fE (al.trans gF),fE (e5.fO gF),fE (fun b hb=>by simp only[Lr] at hb;subst hb;exact⟨Lz _,fun hm=>by have:=ai _ hm;omega⟩),fE (aI.fO gF),fE hw.2.2,ax,fE rfl,fE (by simp),fE (Lz _)⟩
 case round=>
  obtain⟨k,nx,ys,qs,A5,c5,S,rfl,rfl,b1,b5,a2,hG,hH,hS,hO,ag,ae,af,hE,a4⟩:=hrel;have hS2:∀ b∈S,w.heap.size<=b:=fun b hb=>(hS.out b hb).1
  match qs,ag,ae,hE,a2,af,a4 with
  | .nil,ag,ae,hE,a2,af,a4=>
   have HY:Hid (ys=ks.fold):=fE (by have h:=hE.out;simpa[gj.fold] using h);have aS:¬ ((k:Int)<((ks.gD (a+1)).length:Int)):=by have h:=a2.out;simp only[gj.len,Nat.add_zero] at h;rw[gj.iO];omega
   have x0:=za hG.out x0;have x1:=za hG.out x1;have x2:=za hG.out x2;have b0:=Li aO hG.out.size;have ab:Hid ((Ex.node x ks).fold=mQ x ks.fold):=fE rfl;rcases LH (gW x.Kind 2 6) with hb | hb
   rotate_left
   ·have HB:=fE hb
    have HF:Hid ((Ex.node x ks).fold=x::ks.fold):=fE (Df hb);clear hb;exact rV
   ·have HB:=fE hb
    by_cases h2:ks.fold.length=2
    rotate_left
    ·have HF:Hid ((Ex.node x ks).fold=x::ks.fold):=fE (Dg h2)
     have aV:((ys.length:Int)+1 == 3)=U:=Lk.2 (by rw[HY.out];omega);clear hb h2;exact rV
    ·have ah:ys.length=2:=by rw[HY.out];exact h2
     obtain⟨g7,o7,p,ao,_,a3,p0,p1,p2,pk,pn,_⟩:=mj (xs:=x::ys) hH.out.read (k:=1) (by simp[ah]);obtain⟨g8,o8,r,ad,_,a5,r0,r1,r2,rk,rn,_⟩:=mj (xs:=x::ys) hH.out.read (k:=2) (by simp[ah])
     have aw:ys = [p,r]:=by
      match ys,ah,a3,a5 with
      | [y1,y2],_,a3,a5=>
       simp at a3 a5;rw[a3,a5]
     have ac:Hid (ks.fold = [p,r]):=fE (by rw[<-HY.out];exact aw);have aV:((ys.length:Int)+1 == 3)=M:=LM.2 (by omega);have aD:(1:Int)<(ys.length:Int)+1:=by omega
     have aE:(2:Int)<(ys.length:Int)+1:=by omega
     rw[ao] at ad;injection ad with ad
     injection ad with q1 q2
     subst q1 q2;subst ao;simp only[N0,Nat.reduceMul] at p0 p1 p2 r0 r1 r2;have aZ:g7<wr.heap.size:=hH.out.lt g7 (Ei hH.out);clear a3 a5 h2 aw ah;by_cases k1:p.Kind=0
     rotate_left
     ·have HF:Hid ((Ex.node x ks).fold=x::ks.fold):=fE (by rw[ab.out,ac.out];exact Dh k1)
      have au:(p.Kind == 0)=U:=Lk.2 k1;clear hb k1;exact rS
     ·by_cases k2:r.Kind=0
      rotate_left
      ·have HF:Hid ((Ex.node x ks).fold=x::ks.fold):=fE (by rw[ab.out,ac.out];exact Di k2)
       have au:(p.Kind == 0)=M:=LM.2 k1;have aQ:(r.Kind == 0)=U:=Lk.2 k2;clear hb k1 k2;exact rS
      ·have au:(p.Kind == 0)=M:=LM.2 k1
       have aQ:(r.Kind == 0)=M:=LM.2 k2;obtain⟨K5,hV⟩:∃ K5,jh (x.Kind+3) p.gN r.gN=K5:=⟨_,rfl⟩
       have bV:fV K5:=hV ▸ CG _ _ _;have hA:=IF (zX.1 hb) pn rn hV;rcases LH (gW K5 0 999) with hv | hv
       ·have HV:=fE hv
        have HF:Hid ((Ex.node x ks).fold = [oV K5]):=fE (by rw[ab.out,ac.out,<-hV];exact Dk hb k1 k2 (by rw[hV];exact hv));have aC:=fE hV;clear hb k1 k2 hv hV;go_wp2_with(first | (go_at_call 33;(with_reducible refine(lj _ _ _ _).mono ?_);rw[HB.out];rintro e w1 ⟨rfl,rfl⟩) | (go_quiet (first | (go_at_call 254;with_reducible exact hA _ _))) | (go_at_call 33;(with_reducible refine(lj _ _ _ _).mono ?_);rw[HV.out];rintro e w1 ⟨rfl,rfl⟩));have hz:(wr.alloc (C #[F I x.Kind,F I x.gN,G x.Name] 159)).heap.size=wr.heap.size+1:=by simp
        have hb9:=Lp (wr.alloc (C #[F I x.Kind,F I x.gN,G x.Name] 159)) (C #[F I 0,F I K5,G ⟨#[]⟩] 159);rw[hz] at hb9;refine Ln (v:=J (H ⟨wr.heap.size+1,0,V⟩) 1 1) (by simp[Ly,results237,go_sem]) rfl ?_;refine gV.mk (xs:=(Ex.node x ks).fold) (ys:=[oV K5]) (n:=1) (S:=[wr.heap.size+1]) ?_ (HF.out).symm rfl (fun b hb=>by simp only[Lr] at hb;subst hb;have:=hG.out.size;omega) (hG.out.trans gF);exact sV
       ·have HV:=fE hv
        have HF:Hid ((Ex.node x ks).fold=x::ks.fold):=fE (by rw[ab.out,ac.out];exact Dj (by rw[hV];exact hv));have aC:=fE hV;clear hb k1 k2 hv hV;go_wp2_with(first | (go_at_call 33;(with_reducible refine(lj _ _ _ _).mono ?_);rw[HB.out];rintro e w1 ⟨rfl,rfl⟩) | (go_quiet (first | (go_at_call 254;with_reducible exact hA _ _))) | (go_at_call 33;(with_reducible refine(lj _ _ _ _).mono ?_);rw[HV.out];rintro e w1 ⟨rfl,rfl⟩));exact Ln (v:=J (H ⟨g7,o7,V⟩) (ys.length+1) c5) (by simp[Ly,results237,go_sem]) rfl (gV.mk (hH.out.fO gF) (by rw[HY.out];exact(HF.out).symm) (by simp) hS2 (hG.out.trans gF))
  | .cons ex q,ag,ae,hE,a2,af,a4=>
   have aj:xs.drop nx=ex.flat++(q.flat++rs):=by rw[ae.out];simp only[gj.flat,LZ]
   have a6:(ks.gD (a+1)).drop k=(nx:Int)::q.gD (nx+ex.size):=af.out;obtain⟨an,a7⟩:=pw a6;have a1:k<(ks.gD (a+1)).length:=(Lh.1 an).1;obtain⟨go,oo,v,aF,a8,vc,_,_⟩:=lR hO.out.read a1;obtain rfl:v=(nx:Int):=by rw[an] at a8;injection a8 with a8;exact a8.symm
   have aS:(k:Int)<((ks.gD (a+1)).length:Int):=by omega
   have aP:(0:Int)<=(k:Int):=by omega
   have aR:k<ks.len:=by rw[<-gj.iO ks (a+1)];exact a1
   have aN:ex.size<=n:=by have h:=a4.out;simp only[gj.size] at h;omega
   have am:ys.length+ex.fold.length<=100000:=by
    have h:=MY List.length hE.out;simp only[gj.fold,Lj] at h;omega
   have a9:ex.wf/\q.wf:=ag.out;have aA:=fE a7;have az:Hid (xs.drop (nx+ex.size)=q.flat++rs):=fE (by rw[<-Nh,aj,<-ex.gw,NP]);have ay:=fE aj;subst aF;clear an a7 a6 aj a8 a1;go_wp2_with(first | (go_at_call 237;(with_reducible refine(ih ex aN (Ty.up _ hx (hG.out.trans gF)) aU a9.1 ay.out).mono ?_);rintro e v2 ⟨AF,cF,SF,rfl,aH,aW,ap⟩) | (refine qH (L:=ys.length+1+ex.fold.length) rfl (.tmp 24) (.tmp 30) wQ vi (S:=S) (hH.out.fO (fF.trans (b:=_) gF (ap.trans gF))) (Ty.up _ aH.read gF) rfl rfl rfl rfl (by omega) (by omega) ?_;intro A8 c8 W8 S8 av aG aJ));have a0:fF wr v2:=fF.trans (b:=_) gF ap;go_roundw
   case measure=>exact gL
   case rel=>
    have b4:=a0.size;refine⟨k+1,nx+ex.size,ys++ex.fold,q,A8,c8,S8,by rw[Lj];congr 1;omega,by go_num,by omega,by rw[Lj];exact am,fE (by have h:=a2.out;simp only[gj.len] at h;omega),fE (av.fO (hG.out.trans (a0.trans gF)) hS2),fE (by rw[Lj,show ys.length+ex.fold.length+1=ys.length+1+ex.fold.length from by omega];simpa using aG),fE (fun b hb=>?_),fE ((hO.out.fO (a0.trans gF)).fU av (fun b hb hm=>(hS.out b hm).2 hb)),fE a9.2,az,aA,fE (by rw[<-hE.out];simp[gj.fold]),fE (by have h:=a4.out;simp only[gj.size] at h;omega)⟩;rcases aJ b hb with h | h
    ·exact hS.out b h
    ·have h1:=hG.out.size
     (try simp at h);exact⟨by omega,fun hm=>by have:=hO.out.lt b hm;omega⟩
theorem lO {a b:N} {k:Nat} (h:fJ S a b)(hn:k∉S)(hk:a.heap[k]?=H o):b.heap[k]?=H o:=(h.block k (blt hk) hn).trans hk
def tb:Ty Nat where
 size:=1
 R:=fun _ _ cs x=>∃ A c,cs = [J A x c]
 O:=fun _ cs x S=>∃ A c,cs = [J A x c]/\S = []
 kz:=by rintro _ _ _ _ ⟨_,_,rfl⟩;rfl
 iZ:=by rintro _ _ _ _ ⟨_,_,rfl,_⟩;rfl
 kO:=by rintro _ _ _ _ ⟨_,_,rfl,_⟩ u hu;simp at hu;subst hu;rfl
 ld:=by rintro _ _ _ _ ⟨_,_,rfl⟩ u hu;simp at hu;subst hu;rfl
 iR:=by rintro _ _ _ _ _ _ h _ _;exact h
 hJ:=by rintro _ _ _ _ _ h _;exact h
 jB:=by rintro _ _ _ _ ⟨_,_,_,rfl⟩ k hk;simp at hk
 OR:=by rintro _ _ _ _ _ ⟨A,c,h,_⟩ _;exact⟨A,c,h⟩
theorem JV:kK tb:=fun⟨A,c,h⟩ _=>⟨A,c,h,rfl⟩
theorem KG:iI prog 289 85 tb 24:=by
 refine⟨underlying289,?_,by decide⟩;have h:(prog.info? 85).map (fun i=>(i.zero,i.size,i.bytes))=H (H (J V 0 0),1,24):=by kernel_rfl
 cases hi:prog.info? 85 with
 | none=>rw[hi] at h;simp at h
 | some i=>
  exact pJ
theorem KD {Ap:K Mh} {m cp:Nat} {pl:Q Nat} (h:(tb.sl e).R w B [J Ap m cp] pl){k:Nat}(hk:pl[k]?=H n) :
  ∃ g o A c,Ap=H ⟨g,o,V⟩/\Lg w ⟨g,o+k,V⟩=H (J A n c):=by
 have a0:k<pl.length:=(Lh.1 hk).1;obtain⟨g,a1,x,ec,h1,hB,h2,⟨A,c,h3⟩,h4⟩:=om h a0;obtain rfl:x=n:=by rw[hk] at h2;injection h2 with h2;exact h2.symm
 subst h3;refine⟨g,a1,A,c,h1,?_⟩;have h:=h4 0 _ rfl;simpa[tb] using h
def gj.lens:gj->Q Nat
 | .nil=>[]
 | .cons e r=>e.fold.length::r.lens
theorem gj.pg {ks:gj} (hw:ks.wf)(hl:ks.len=2)(hf:ks.fold.length=2):ks.lens = [1,1]:=by
 match ks,hw,hl,hf with
 | .cons a (.cons b .nil),hw,_,hf=>
  have h1:=(a.jN hw.1).1;have h2:=(b.jN hw.2.1).1;simp only[gj.fold,Lj,Mk] at hf;simp only[gj.lens];rw[show a.fold.length=1 from by omega,show b.fold.length=1 from by omega]
theorem rR {g:Prop} (f:g:=by
  go_wp2_with(first | (go_at_call 43;(with_reducible refine(jr _ _ _ _).mono ?_);rw[HB.out];rintro e w1 ⟨rfl,rfl⟩))
  exact Ln (v:=J (H ⟨g7,o7,V⟩) (ys.length+1) c5) (by simp[Ly,results259,go_sem]) rfl (gV.mk (hH.out.fO gF) (by rw[HY.out];exact(HF.out).symm) (by simp) hS2 (hG.out.trans gF))):g:=f
theorem rU {g:Prop} (f:g:=by
  go_wp2_with(first | (go_at_call 43;(with_reducible refine(jr _ _ _ _).mono ?_);rw[HB.out];rintro e w1 ⟨rfl,rfl⟩))
  exact Ln (v:=J A5 (ys.length+1) c5) (by simp[Ly,results259,go_sem]) rfl (gV.mk (hH.out.fO gF) (by rw[HY.out];exact(HF.out).symm) (by simp) hS2 (hG.out.trans gF))):g:=f
theorem zsj:∀(n:Nat)(e:Ex),e.size<=n->∀{xs:Q gu}{a:Nat}{rs:Q gu}{w:N}{A:K Mh}{c:Nat},(iz.sl 159).R w w.heap.size [J A xs.length c] xs->xs.length<=100000->e.wf->xs.drop a=e.flat++rs->
  LR prog 259 #[J A xs.length c,F I a] w (gV e.fold w):=by
 intro n;induction n with
 | zero=>intro e he;have:=e.size_pos;omega
 | succ n ih=>
 intro e he xs a rs w A c hx bg hw hd;have hl:xs.length<=1099511627776:=by omega
 match e,he,hw,hd with
 | .node t ks,he,hw,hd=>
 obtain⟨av,hd1⟩:=pw (show xs.drop a=t::(ks.flat++rs) from hd);have b7:a<xs.length:=(Lh.1 av).1;obtain⟨g,bA,x,hA,ba,af,x0,x1,x2,bk,bn,bs⟩:=mj hx b7;obtain rfl:x=t:=by rw[av] at af;injection af with af;exact af.symm
 clear av af
 have bv:ks.size<=xs.length:=by
  exact n8
 have bp:=ks.jN hw.2.2;have bu:=ks.jd;have bf:ks.size<=n:=by simp only[Ex.size] at he;omega
 have bm:(a:Int)<(xs.length:Int):=by omega
 have b6:(0:Int)<=(a:Int):=by omega
 have aM:=fE hd1;have aQ:Hid (iz.R w w.heap.size [F I x.Kind,F I x.gN,G x.Name] x):=fE (yy bk bn bs);have aG:=fF.refl w;clear hd1;subst hA;go_enter func259,ntmps259;go_wp2_with(first | (go_at_call 266;(with_reducible refine(zhc (t:=x) (ks:=ks) (rs:=rs) (Ty.up _ hx (aG.trans gF)) hl hw hd).mono ?_);rintro e v1 ⟨AO,cO,SO,rfl,aZ,b5,ak⟩;have ax:=aG.trans (fF.trans (b:=_) gF ak)));have aK:(w.alloc (C #[F I x.Kind,F I x.gN,G x.Name] 159)).heap.size=w.heap.size+1:=by simp
 have aL:((w.alloc (C #[F I x.Kind,F I x.gN,G x.Name] 159)).alloc (C #[F I x.Kind,F I x.gN,G x.Name] 159)).heap.size=w.heap.size+2:=by simp
 have aF:=Lp w (C #[F I x.Kind,F I x.gN,G x.Name] 159);have aq:=Lp (w.alloc (C #[F I x.Kind,F I x.gN,G x.Name] 159)) (C #[F I x.Kind,F I x.gN,G x.Name] 159);have ar:=Lp ((w.alloc (C #[F I x.Kind,F I x.gN,G x.Name] 159)).alloc (C #[F I x.Kind,F I x.gN,G x.Name] 159)) (C #[] 85);rw[aK] at aq;rw[aL] at ar;have EB:Hid (v1.heap[w.heap.size]?=H (C #[F I x.Kind,F I x.gN,G x.Name] 159 (0,0))):=fE (zj aF (fF.trans (b:=_) gF ak));have e5:Has (iz.sl 159) v1 [J (H ⟨w.heap.size+1,0,V⟩) 1 1] [x] [w.heap.size+1]:=zd (zj aq (fF.trans (b:=_) gF ak)) aQ.out;have e7:Has (tb.sl 85) v1 [J (H ⟨w.heap.size+2,0,V⟩) 0 0] [] [w.heap.size+2]:=Has.emp tb (zj ar ak);have a5:∀ b∈SO,w.heap.size+3<=b:=fun b hb=>by have:=b5 b hb;simp at this;omega
 have bw:w.heap.size<v1.heap.size:=(blt EB.out)
 clear aF aq ar aK aL;go_loopw [6,7,23] (fun z zp j wr=>∃(k nx:Nat) (ys:Q gu) (qs:gj) (A5:K Mh) (c5:Nat) (S:Q Nat) (Ap:K Mh) (cp:Nat) (pl:Q Nat) (Sp:Q Nat),z=J A5 (ys.length+1) c5/\j=F I k/\k<=ks.len/\ys.length<=100000/\Hid (k+qs.len=ks.len)/\Hid (fF w wr)/\Hid (Has (iz.sl 159) wr [J A5 (ys.length+1) c5] (x::ys) S)/\Hid (∀ b∈S,w.heap.size+1<=b/\b∉SO)/\Hid (Has (zF.sl 3) wr [J AO (ks.gD (a+1)).length cO] (ks.gD (a+1)) SO)/\Hid qs.wf/\Hid (xs.drop nx=qs.flat++rs)/\Hid ((ks.gD (a+1)).drop k=qs.gD nx)/\Hid (ys++qs.fold=ks.fold)/\Hid (qs.size<=ks.size)/\zp=J Ap pl.length cp/\Hid (wr.heap[w.heap.size]?=H (C #[F I x.Kind,F I x.gN,G x.Name] 159 (0,0)))/\Hid (Has (tb.sl 85) wr [J Ap pl.length cp] pl Sp)/\Hid (∀ b∈Sp,w.heap.size+1<=b/\b∉S/\b∉SO)/\Hid (pl++qs.lens=ks.lens)/\Hid (pl.length=k)) (fun _ _ j _=>ks.len-(Ml j).toNat)
 case atStart=>
  exact⟨0,a+1,[],ks,_,1,[w.heap.size+1],_,0,[],[w.heap.size+2],rfl,rfl,Lv _,Lv _,fE (by omega),fE (ax.trans gF),fE (e5.fO gF),fE (fun b hb=>by simp only[Lr] at hb;subst hb;exact⟨Lz _,fun hm=>by have:=a5 _ hm;omega⟩),fE (aZ.fO gF),fE hw.2.2,aM,fE rfl,fE (by simp),fE (Lz _),rfl,fE (zj EB.out gF),fE (e7.fO gF),fE (fun b hb=>by simp only[Lr] at hb;subst hb;exact⟨by omega,by simp,fun hm=>by have:=a5 _ hm;omega⟩),fE (by simp),fE rfl⟩
 case round=>
  obtain⟨k,nx,ys,qs,A5,c5,S,Ap,cp,pl,Sp,rfl,rfl,bt,bz,a7,hG,hH,hS,hO,an,aj,am,hE,a9,rfl,hB,hP,a6,a4,aD⟩:=hrel;have hS2:∀ b∈S,w.heap.size<=b:=fun b hb=>by have:=(hS.out b hb).1;omega
  have ap:∀ b∈Sp,w.heap.size<=b:=fun b hb=>by have:=(a6.out b hb).1;omega
  have bi:pl.length<=100000:=by rw[aD.out];omega
  obtain⟨b0,b1,b2,_⟩:=pA hB.out;have bo:w.heap.size<wr.heap.size:=(blt hB.out)
  match qs,an,aj,hE,a7,am,a9,a4 with
  | .nil,an,aj,hE,a7,am,a9,a4=>
   have HY:Hid (ys=ks.fold):=fE (by have h:=hE.out;simpa[gj.fold] using h);have be:¬ ((k:Int)<((ks.gD (a+1)).length:Int)):=by have h:=a7.out;simp only[gj.len,Nat.add_zero] at h;rw[gj.iO];omega
   have x0:=za hG.out x0;have x1:=za hG.out x1;have x2:=za hG.out x2;have br:=Li ba hG.out.size;have ag:Hid ((Ex.node x ks).fold=mQ x ks.fold):=fE rfl;rcases LH (gW x.Kind 2 6) with hb | hb
   rotate_left
   ·have HB:=fE hb
    have HF:Hid ((Ex.node x ks).fold=x::ks.fold):=fE (Df hb);clear hb;exact rU
   ·have HB:=fE hb
    by_cases h2:ks.fold.length=2
    rotate_left
    ·have HF:Hid ((Ex.node x ks).fold=x::ks.fold):=fE (Dg h2)
     have bh:((ys.length:Int)+1 == 3)=U:=Lk.2 (by rw[HY.out];omega);clear hb h2;exact rU
    ·have ao:ys.length=2:=by rw[HY.out];exact h2
     obtain⟨g7,o7,p,aB,_,a8,p0,p1,p2,pk,pn,_⟩:=mj (xs:=x::ys) hH.out.read (k:=1) (by simp[ao]);obtain⟨g8,o8,r,ai,_,aa,r0,r1,r2,rk,rn,_⟩:=mj (xs:=x::ys) hH.out.read (k:=2) (by simp[ao])
     have aJ:ys = [p,r]:=by
      match ys,ao,a8,aa with
      | [y1,y2],_,a8,aa=>
       simp at a8 aa;rw[a8,aa]
     have ah:Hid (ks.fold = [p,r]):=fE (by rw[<-HY.out];exact aJ);have bh:((ys.length:Int)+1 == 3)=M:=LM.2 (by omega)
     have ay:ks.len=2:=by
      have h:=hw.2.1;unfold iL at h;have hk:=zX.1 hb;rw[Lu hw.1,Lt (by omega),Lt (by omega)] at h;exact_mod_cast h.symm
     have aI:pl = [1,1]:=by
      have h:=a4.out;simp only[gj.lens,MC] at h;rw[h];exact gj.pg hw.2.2 ay h2
     have aS:(0:Int)<(pl.length:Int):=by rw[aI];decide
     obtain⟨gq,oq,Aq,cq,aW,hq⟩:=KD (pl:=pl) (n:=1) hP.out.read (k:=0) (by rw[aI];rfl);subst aW;rw[Nat.add_zero] at hq;have aT:(1:Int)<(ys.length:Int)+1:=by omega
     have aU:(2:Int)<(ys.length:Int)+1:=by omega
     rw[aB] at ai;injection ai with ai
     injection ai with q1 q2
     subst q1 q2;subst aB;simp only[N0,Nat.reduceMul] at p0 p1 p2 r0 r1 r2;have bq:g7<wr.heap.size:=hH.out.lt g7 (Ei hH.out);clear a8 aa h2 aJ ao;by_cases k1:p.Kind=0
     rotate_left
     ·have HF:Hid ((Ex.node x ks).fold=x::ks.fold):=fE (by rw[ag.out,ah.out];exact Dh k1)
      have aH:(p.Kind == 0)=U:=Lk.2 k1;clear hb k1;exact rR
     ·by_cases k2:r.Kind=0
      rotate_left
      ·have HF:Hid ((Ex.node x ks).fold=x::ks.fold):=fE (by rw[ag.out,ah.out];exact Di k2)
       have aH:(p.Kind == 0)=M:=LM.2 k1;have bc:(r.Kind == 0)=U:=Lk.2 k2;clear hb k1 k2;exact rR
      ·have aH:(p.Kind == 0)=M:=LM.2 k1
       have bc:(r.Kind == 0)=M:=LM.2 k2;obtain⟨K5,hV⟩:∃ K5,jh (x.Kind+3) p.gN r.gN=K5:=⟨_,rfl⟩
       have bV:fV K5:=hV ▸ CG _ _ _;have hA:=IE (zX.1 hb) pn rn hV;rcases LH (gW K5 0 999) with hv | hv
       ·have HV:=fE hv
        have HF:Hid ((Ex.node x ks).fold = [oV K5]):=fE (by rw[ag.out,ah.out,<-hV];exact Dk hb k1 k2 (by rw[hV];exact hv));have aR:=fE hV;clear hb k1 k2 hv hV;go_wp2_with(first | (go_at_call 43;(with_reducible refine(jr _ _ _ _).mono ?_);rw[HB.out];rintro e w1 ⟨rfl,rfl⟩) | (go_quiet (first | (go_at_call 267;with_reducible exact hA _ _))) | (go_at_call 43;(with_reducible refine(jr _ _ _ _).mono ?_);rw[HV.out];rintro e w1 ⟨rfl,rfl⟩));have hb9:=Lp wr (C #[F I 0,F I K5,G ⟨#[]⟩] 159);refine Ln (v:=J (H ⟨wr.heap.size,0,V⟩) 1 1) (by simp[Ly,results259,go_sem]) rfl ?_;refine gV.mk (xs:=(Ex.node x ks).fold) (ys:=[oV K5]) (n:=1) (S:=[wr.heap.size]) ?_ (HF.out).symm rfl (fun b hb=>by simp only[Lr] at hb;subst hb;have:=hG.out.size;omega) (hG.out.trans gF);exact sV
       ·have HV:=fE hv
        have HF:Hid ((Ex.node x ks).fold=x::ks.fold):=fE (by rw[ag.out,ah.out];exact Dj (by rw[hV];exact hv));have aR:=fE hV;clear hb k1 k2 hv hV;go_wp2_with(first | (go_at_call 43;(with_reducible refine(jr _ _ _ _).mono ?_);rw[HB.out];rintro e w1 ⟨rfl,rfl⟩) | (go_quiet (first | (go_at_call 267;with_reducible exact hA _ _))) | (go_at_call 43;(with_reducible refine(jr _ _ _ _).mono ?_);rw[HV.out];rintro e w1 ⟨rfl,rfl⟩));exact Ln (v:=J (H ⟨g7,o7,V⟩) (ys.length+1) c5) (by simp[Ly,results259,go_sem]) rfl (gV.mk (hH.out.fO gF) (by rw[HY.out];exact(HF.out).symm) (by simp) hS2 (hG.out.trans gF))
  | .cons ex q,an,aj,hE,a7,am,a9,a4=>
   have au:xs.drop nx=ex.flat++(q.flat++rs):=by rw[aj.out];simp only[gj.flat,LZ]
   have ab:(ks.gD (a+1)).drop k=(nx:Int)::q.gD (nx+ex.size):=am.out;obtain⟨aA,ac⟩:=pw ab;have a3:k<(ks.gD (a+1)).length:=(Lh.1 aA).1;obtain⟨go,oo,v,aV,ad,vc,_,_⟩:=lR hO.out.read a3;obtain rfl:v=(nx:Int):=by rw[aA] at ad;injection ad with ad;exact ad.symm
   have be:(k:Int)<((ks.gD (a+1)).length:Int):=by omega
   have bb:(0:Int)<=(k:Int):=by omega
   have bd:k<ks.len:=by rw[<-gj.iO ks (a+1)];exact a3
   have b8:ex.size<=n:=by have h:=a9.out;simp only[gj.size] at h;omega
   have az:ys.length+ex.fold.length<=100000:=by
    have h:=MY List.length hE.out;simp only[gj.fold,Lj] at h;omega
   have ae:ex.wf/\q.wf:=an.out;have aP:=fE ac;have aO:Hid (xs.drop (nx+ex.size)=q.flat++rs):=fE (by rw[<-Nh,au,<-ex.gw,NP]);have aN:=fE au;subst aV;clear aA ac ab au ad a3;go_wp2_with(first | (go_at_call 259;(with_reducible refine(ih ex b8 (Ty.up _ hx (hG.out.trans gF)) bg ae.1 aN.out).mono ?_);rintro e v2 ⟨AF,cF,SF,rfl,aY,b4,aw⟩) | (refine zr (W1:=w) (L:=pl.length+1) rfl (.tmp 30) (.tmp 32) KG JV (S:=Sp) (hP.out.fO (fF.trans (b:=_) gF (aw.trans gF))) (ec:=[J AF ex.fold.length cF]) (y:=ex.fold.length) (B:=0) ⟨_,_,rfl⟩ rfl rfl rfl (by intro j u hu;simpa[go_sem] using hu) rfl (by omega) (by omega) ?_;intro A9 c9 W9 S9 a0 aC b3) | (refine qH (L:=ys.length+1+ex.fold.length) rfl (.tmp 34) (.tmp 35) wQ vi (S:=S) (W:=W9) ((hH.out.fO (fF.trans (b:=_) gF (aw.trans gF))).fU a0 (fun b hb hm=>(a6.out b hm).2.1 hb)) (Ty.up _ ((aY.fO gF).fU a0 (fun b hb hm=>by have h1:=b4 b hb;have h2:=hP.out.lt b hm;(try simp at h1);omega)).read gF) rfl rfl rfl rfl (by omega) (by omega) ?_;intro A8 c8 W8 S8 al aX aE));have a2:fF wr v2:=fF.trans (b:=_) gF aw;go_roundw
   case measure=>exact gL
   case rel=>
    have bx:=a2.size;have bj:=a0.size;simp at bj;have bl:=hG.out.size;have b9:fF w W9:=a0.fO (hG.out.trans (a2.trans gF)) ap
    have a1:∀ b∈S9,w.heap.size+1<=b/\b∉S/\b∉SO:=fun b hb=>by
     rcases b3 b hb with h | h
     ·exact a6.out b h
     ·(try simp at h)
      exact⟨by omega,fun hm=>by have:=hH.out.lt b hm;omega,fun hm=>by have:=hO.out.lt b hm;omega⟩
    refine⟨k+1,nx+ex.size,ys++ex.fold,q,A8,c8,S8,A9,c9,pl++[ex.fold.length],S9,by rw[Lj];congr 1;omega,by go_num,by omega,by rw[Lj];exact az,fE (by have h:=a7.out;simp only[gj.len] at h;omega),fE (al.fO b9 hS2),fE (by rw[Lj,show ys.length+ex.fold.length+1=ys.length+1+ex.fold.length from by omega];simpa using aX),fE (fun b hb=>?_),fE (((hO.out.fO (a2.trans gF)).fU a0 (fun b hb hm=>(a6.out b hm).2.2 hb)).fU al (fun b hb hm=>(hS.out b hm).2 hb)),fE ae.2,aO,aP,fE (by rw[<-hE.out];simp[gj.fold]),fE (by have h:=a9.out;simp only[gj.size] at h;omega),by simp,fE (lO al (fun hm=>by have:=(hS.out _ hm).1;omega) (lO a0 (fun hm=>by have:=(a6.out _ hm).1;omega) (zj hB.out (a2.trans gF)))),fE (by rw[show (pl++[ex.fold.length]).length=pl.length+1 from by simp];exact aC.fU al (fun b hb=>(a1 b hb).2.1)),fE (fun b hb=>⟨(a1 b hb).1,fun hm=>?_,(a1 b hb).2.2⟩),fE (by have h:=a4.out;simp only[gj.lens] at h;rw[<-h];simp),fE (by simp[aD.out])⟩
    ·rcases aE b hb with h | h
     ·exact hS.out b h
     ·exact⟨by omega,fun hm=>by have:=hO.out.lt b hm;omega⟩
    ·rcases aE b hm with h | h
     ·exact(a1 b hb).2.1 h
     ·have:=aC.lt b hb;omega
theorem Kl {e:Ex} (hx:(iz.sl 159).R w w.heap.size [J A xs.length c] xs)(hl:xs.length<=100000)(hw:e.wf)(hd:xs.drop 0=e.flat++rs) :
  LR prog 237 #[J A xs.length c,F I 0] w (gV e.fold w):=zsl e.size e (Lz _) (a:=0) hx hl hw hd
theorem zoo (hx:(iz.sl 159).R w w.heap.size [J A xs.length c] xs)(hl:xs.length<=1099511627776) :
  LR prog 220 #[J A xs.length c] w (gV (mg xs) w):=by
 rcases LH (l4 xs) with he | he
 ·obtain⟨e,hw,h1,a5,h2⟩:=vD he
  have a4:xs.length<=100000:=by omega
  have HE:=fE he;have HF:=fE h2;have HD:Hid (xs.drop 0=e.flat++[]):=fE (by rw[Mt,MC];exact h1);clear he h1 h2;go_enter func220,ntmps220;go_wp2_with(first | (go_at_call 174;(with_reducible refine(zjF hx hl).mono ?_);rw[HE.out];rintro e1 v1 ⟨rfl,a0⟩) | (go_at_call 237;(with_reducible refine(Kl (Ty.up _ hx a0) a4 hw HD.out).mono ?_);rintro e2 v2 ⟨A2,c2,S2,rfl,a1,a2,a3⟩));refine Ln (v:=J A2 e.fold.length c2) (by simp[Ly,results220,go_sem]) rfl ?_;exact gV.mk (a1) (HF.out).symm rfl (fun b hb=>by have h1:=a2 b hb;have h2:=a0.size;omega) (a0.trans a3)
 ·have HE:=fE he
  clear he;go_enter func220,ntmps220;go_wp2_with(first | (go_at_call 174;(with_reducible refine(zjF hx hl).mono ?_);rw[HE.out];rintro e1 v1 ⟨rfl,a0⟩));refine Ln (v:=J (H ⟨v1.heap.size,0,V⟩) 0 0) (by simp[Ly,results220,go_sem]) rfl ?_;exact gV.mk (xs:=mg xs) (ys:=[]) (n:=0) (S:=[v1.heap.size]) (Has.emp iz (Lp _ _)) (by unfold mg;rw[Lt (by rw[HE.out];decide)]) rfl (fun b hb=>by simp only[Lr] at hb;subst hb;exact a0.size) (a0.trans gF)
theorem Kk {e:Ex} (hx:(iz.sl 159).R w w.heap.size [J A xs.length c] xs)(hl:xs.length<=100000)(hw:e.wf)(hd:xs.drop 0=e.flat++rs) :
  LR prog 259 #[J A xs.length c,F I 0] w (gV e.fold w):=zsj e.size e (Lz _) (a:=0) hx hl hw hd
theorem zon (hx:(iz.sl 159).R w w.heap.size [J A xs.length c] xs)(hl:xs.length<=1099511627776) :
  LR prog 247 #[J A xs.length c] w (gV (mg xs) w):=by
 rcases LH (l4 xs) with he | he
 ·obtain⟨e,hw,h1,a5,h2⟩:=vD he
  have a4:xs.length<=100000:=by omega
  have HE:=fE he;have HF:=fE h2;have HD:Hid (xs.drop 0=e.flat++[]):=fE (by rw[Mt,MC];exact h1);clear he h1 h2;go_enter func247,ntmps247;go_wp2_with(first | (go_at_call 188;(with_reducible refine(zjE hx hl).mono ?_);rw[HE.out];rintro e1 v1 ⟨rfl,a0⟩) | (go_at_call 259;(with_reducible refine(Kk (Ty.up _ hx a0) a4 hw HD.out).mono ?_);rintro e2 v2 ⟨A2,c2,S2,rfl,a1,a2,a3⟩));refine Ln (v:=J A2 e.fold.length c2) (by simp[Ly,results247,go_sem]) rfl ?_;exact gV.mk (a1) (HF.out).symm rfl (fun b hb=>by have h1:=a2 b hb;have h2:=a0.size;omega) (a0.trans a3)
 ·have HE:=fE he
  clear he;go_enter func247,ntmps247;go_wp2_with(first | (go_at_call 188;(with_reducible refine(zjE hx hl).mono ?_);rw[HE.out];rintro e1 v1 ⟨rfl,a0⟩));refine Ln (v:=J V 0 0) (by simp[Ly,results247,go_sem]) rfl ?_;exact gV.mk (xs:=mg xs) (ys:=[]) (n:=0) (S:=[]) (Has.nil iz _ _) (by unfold mg;rw[Lt (by rw[HE.out];decide)]) rfl (fun b hb=>by simp at hb) a0
def ja {α:Type} [DecidableEq α]:Q α->α->Nat->Int
 | [],_,_=>-1
 | x::r,v,i=>if v=x then i else ja r v (i+1)
theorem tX {α:Type} [DecidableEq α]{xs:Q α}{k:Nat}{x v:α}(h:xs[k]?=H x)(i:Nat):ja (xs.drop k) v i=if v=x then (i:Int) else ja (xs.drop (k+1)) v (i+1):=by
 obtain⟨h1,rfl⟩:=Lh.1 h;rw[LI h1];rfl
theorem Dp {α:Type} [DecidableEq α](v:α):∀(xs:Q α)(i:Nat),0<=ja xs v i↔v∈xs
 | [],_=>by simp[ja]
 | x::r,i=>by
  unfold ja;split
  ·rename_i h;subst h;simp
  ·rename_i h;rw[Dp v r (i+1)];simp[h]
theorem ub {α:Type} [DecidableEq α](v:α)(xs:Q α):decide (ja xs v 0≥0)=(xs.any fun y=>decide (y=v)):=by
 rw[OC,NR,ge_iff_le,Dp v xs 0];simp
theorem pL {g:Prop} (f:g:=by
  clear hv
  go_wp2_with(fail)
  go_roundw
  exact⟨k+1,by go_num,by omega,fE (hG.out.trans gF),HF⟩
  exact gL):g:=f
theorem zh5 {xs:Q D} (hx:(iH.sl 9).R w w.heap.size [J A xs.length c] xs)(hl:xs.length<=8796093022208) :
  LR prog 243 #[J A xs.length c,G v] w fun e w'=>e=.returned (F I (ja xs v 0))/\fF w w':=by
 go_enter func243,ntmps243;go_wp2_with(fail);go_loopw [8] (fun j wr=>∃(k:Nat),j=F I k/\k<=xs.length/\Hid (fF w wr)/\Hid (ja (xs.drop k) v k=ja xs v 0)) (fun j _=>xs.length-(Ml j).toNat)
 case atStart=>exact⟨0,rfl,Lv _,fE gF,fE rfl⟩
 case round=>
  obtain⟨k,rfl,hk,hG,hE⟩:=hrel;by_cases hlt:k<xs.length
  ·obtain⟨g,a3,x,rfl,a0,x0,_⟩:=qu hx hlt
   have a1:(k:Int)<(xs.length:Int):=by omega
   have x0:=za hG.out x0;have HX:=fE a0;clear a0;by_cases hv:v=x
   ·have HF:Hid (ja xs v 0=k):=fE (by rw[<-hE.out,tX HX.out,Lu hv])
    have a2:(v.toList == x.toList)=M:=by rw[mw];simp[hv]
    clear hv;go_wp2_with(fail);exact Ln (v:=F I (k:Int)) (by simp[Ly,results243,go_sem]) rfl ⟨by rw[HF.out],hG.out.trans gF⟩
   ·have HF:Hid (ja (xs.drop (k+1)) v (k+1)=ja xs v 0):=fE (by rw[<-hE.out,tX HX.out,Lt hv])
    have a2:(v.toList == x.toList)=U:=by rw[mw];simp[hv]
    exact pL
  ·obtain rfl:k=xs.length:=by omega
   have a1:¬ ((xs.length:Int)<(xs.length:Int)):=by omega
   have HF:Hid (ja xs v 0 = -1):=fE (by rw[<-hE.out,LY];rfl);go_wp2_with(fail);exact Ln (v:=F I (-1)) (by simp[Ly,results243,go_sem]) rfl ⟨by rw[HF.out],hG.out.trans gF⟩
theorem zll {xs:Q Int} {v:Int} (hx:(zF.sl 3).R w w.heap.size [J A xs.length c] xs)(hl:xs.length<=8796093022208) :
  LR prog 192 #[J A xs.length c,F I v] w fun e w'=>e=.returned (F I (ja xs v 0))/\fF w w':=by
 go_enter func192,ntmps192;go_wp2_with(fail);go_loopw [8] (fun j wr=>∃(k:Nat),j=F I k/\k<=xs.length/\Hid (fF w wr)/\Hid (ja (xs.drop k) v k=ja xs v 0)) (fun j _=>xs.length-(Ml j).toNat)
 case atStart=>exact⟨0,rfl,Lv _,fE gF,fE rfl⟩
 case round=>
  obtain⟨k,rfl,hk,hG,hE⟩:=hrel;by_cases hlt:k<xs.length
  ·obtain⟨g,a3,x,rfl,a0,x0,_,_⟩:=lR hx hlt
   have a1:(k:Int)<(xs.length:Int):=by omega
   have x0:=za hG.out x0;have HX:=fE a0;clear a0;by_cases hv:v=x
   ·have HF:Hid (ja xs v 0=k):=fE (by rw[<-hE.out,tX HX.out,Lu hv])
    have a2:(v == x)=M:=LM.2 hv;clear hv;go_wp2_with(fail);exact Ln (v:=F I (k:Int)) (by simp[Ly,results192,go_sem]) rfl ⟨by rw[HF.out],hG.out.trans gF⟩
   ·have HF:Hid (ja (xs.drop (k+1)) v (k+1)=ja xs v 0):=fE (by rw[<-hE.out,tX HX.out,Lt hv])
    have a2:(v == x)=U:=Lk.2 hv;exact pL
  ·obtain rfl:k=xs.length:=by omega
   have a1:¬ ((xs.length:Int)<(xs.length:Int)):=by omega
   have HF:Hid (ja xs v 0 = -1):=fE (by rw[<-hE.out,LY];rfl);go_wp2_with(fail);exact Ln (v:=F I (-1)) (by simp[Ly,results192,go_sem]) rfl ⟨by rw[HF.out],hG.out.trans gF⟩
theorem zeG {xs:Q D} (hx:(iH.sl 9).R w w.heap.size [J A xs.length c] xs)(hl:xs.length<=8796093022208) :
  LR prog 178 #[J A xs.length c,G v] w fun e w'=>e=.returned (F I (ja xs v 0))/\fF w w':=by
 go_enter func178,ntmps178;go_wp2_with(fail);go_loopw [5] (fun j wr=>∃(k:Nat),j=F I k/\k<=xs.length/\Hid (fF w wr)/\Hid (ja (xs.drop k) v k=ja xs v 0)) (fun j _=>xs.length-(Ml j).toNat)
 case atStart=>exact⟨0,rfl,Lv _,fE gF,fE rfl⟩
 case round=>
  obtain⟨k,rfl,hk,hG,hE⟩:=hrel;by_cases hlt:k<xs.length
  ·obtain⟨g,a3,x,rfl,a0,x0,_⟩:=qu hx hlt
   have a1:(k:Int)<(xs.length:Int):=by omega
   have x0:=za hG.out x0;have HX:=fE a0;clear a0;by_cases hv:v=x
   ·have HF:Hid (ja xs v 0=k):=fE (by rw[<-hE.out,tX HX.out,Lu hv])
    have a2:(x.toList == v.toList)=M:=by rw[mw];simp[hv]
    clear hv;go_wp2_with(fail);exact Ln (v:=F I (k:Int)) (by simp[Ly,results178,go_sem]) rfl ⟨by rw[HF.out],hG.out.trans gF⟩
   ·have HF:Hid (ja (xs.drop (k+1)) v (k+1)=ja xs v 0):=fE (by rw[<-hE.out,tX HX.out,Lt hv])
    have a2:(x.toList == v.toList)=U:=by rw[mw];simp;exact fun h=>hv h.symm
    exact pL
  ·obtain rfl:k=xs.length:=by omega
   have a1:¬ ((xs.length:Int)<(xs.length:Int)):=by omega
   have HF:Hid (ja xs v 0 = -1):=fE (by rw[<-hE.out,LY];rfl);go_wp2_with(fail);exact Ln (v:=F I (-1)) (by simp[Ly,results178,go_sem]) rfl ⟨by rw[HF.out],hG.out.trans gF⟩
theorem uG {xs:Q D} (hx:(iH.sl 9).R w w.heap.size [J A xs.length c] xs)(hl:xs.length<=8796093022208) :
  LR prog 223 #[J A xs.length c,G v] w fun e w'=>e=.returned (X (xs.any fun y=>decide (y=v)))/\fF w w':=by
 go_enter func223,ntmps223;go_wp2_with(first | (go_at_call 243;(with_reducible refine(zh5 hx hl).mono ?_);rintro e v1 ⟨rfl,hg⟩));refine Ln (v:=X (decide (ja xs v 0≥0))) (by simp[Ly,results223,go_sem]) rfl ⟨by rw[ub],hg.trans gF⟩
theorem vB {xs:Q Int} {v:Int} (hx:(zF.sl 3).R w w.heap.size [J A xs.length c] xs)(hl:xs.length<=8796093022208) :
  LR prog 111 #[J A xs.length c,F I v] w fun e w'=>e=.returned (X (xs.any fun y=>decide (y=v)))/\fF w w':=by
 go_enter func111,ntmps111;go_wp2_with(first | (go_at_call 192;(with_reducible refine(zll hx hl).mono ?_);rintro e v1 ⟨rfl,hg⟩));refine Ln (v:=X (decide (ja xs v 0≥0))) (by simp[Ly,results111,go_sem]) rfl ⟨by rw[ub],hg.trans gF⟩
theorem tJ:iI prog 71 9 iH 16:=by
 refine⟨underlying71,?_,by decide⟩;have h:(prog.info? 9).map (fun i=>(i.zero,i.size,i.bytes))=H (H (G ⟨#[]⟩),1,16):=by kernel_rfl
 cases hi:prog.info? 9 with
 | none=>rw[hi] at h;simp at h
 | some i=>
  exact pJ
def mG (x:fG)(w:N)(r:Ending)(w':N):Prop:=∃ A0 c0 A1 c1 S,r=.returned (.agg #[F I x.Kind,G x.Name,J A0 x.fP.length c0,J A1 x.Expr.length c1])/\Has zM w' [F I x.Kind,G x.Name,J A0 x.fP.length c0,J A1 x.Expr.length c1] x S/\(∀ b∈S,w.heap.size<=b)/\fF w w'
theorem mG.mk (h:gM zM w w' [F I x.Kind,G x.Name,J A0 x.fP.length c0,J A1 x.Expr.length c1] x)(hg:fF w w'):mG x w (.returned (.agg #[F I x.Kind,G x.Name,J A0 x.fP.length c0,J A1 x.Expr.length c1])) w':=by
 obtain⟨S,h1,h2,h3⟩:=h;exact⟨_,_,_,_,S,rfl,⟨h1,h2⟩,h3,hg⟩
theorem yQ {S0 S1:Q Nat} (h0:fV x.Kind)(h1:x.Name.size<=9223372036854775807)(h2:Has (iH.sl 9) W [J A0 x.fP.length c0] x.fP S0)(h3:Has (iz.sl 159) W [J A1 x.Expr.length c1] x.Expr S1)(hd:∀ b∈S0,b∉S1) :
  Has zM W [F I x.Kind,G x.Name,J A0 x.fP.length c0,J A1 x.Expr.length c1] x (S0++S1):=
 ⟨vQ h0 h1 h2.1 h3.1,Ms.2 ⟨h2.2,h3.2,fun a ha b hb he=>hd a ha (he ▸ hb)⟩⟩
theorem He (hx:(iz.sl 159).R w w.heap.size [J A xs.length c] xs)(hl:xs.length<=1099511627776) :
  LR prog 252 #[J A xs.length c] w (gV xs w):=by
 go_enter func252,ntmps252;go_wp2_with(at_builtin;refine qH (L:=xs.length) rfl (.tmp 3) (.tmp 4) wQ vi (S:=[w.heap.size]) (Has.emp iz (Lp _ _)) (Ty.up _ hx gF) rfl rfl rfl (Mb _).symm (by omega) (by omega) ?_;intro A7 c7 W7 S7 a3 a0 a1)
 have a2:∀ b∈S7,w.heap.size<=b:=fun b hb=>by
  rcases a1 b hb with h | h
  ·simp at h;omega
  ·simp at h;omega
 refine Ln (v:=J A7 xs.length c7) (by simp[Ly,results252,go_sem]) rfl ?_;rw[Mw] at a0;exact gV.mk a0 rfl rfl a2 (a3.fO (W0:=w) gF (fun b hb=>by simp at hb;omega))
theorem J3.td {α β:Type} {T:Ty α} {K8:Ty β} {f:TypeId} {Y W':N} {va vb vb':LA} {xa:Q α} {xb xb':Q β} {Sa Sb Sb':Q Nat} {go:Nat} (h:J3 T K8 e f Y W va vb xa xb Sa Sb go o)(hg:fF W W')(hH:Has (K8.sl f) W' [vb'] xb' Sb')(hS:∀ b∈Sb',W.heap.size<=b):J3 T K8 e f Y W' va vb' xa xb' Sa Sb' go o:=by
 have hl:=(blt h.ho)
 refine⟨h.ha.fO hg,hH,fun b hb hm=>?_,h.la,fun b hb=>?_,h.hg.trans hg,zj h.ho hg,h.oe,fun hm=>?_⟩
 ·have:=h.ha.lt b hb;have:=hS b hm;omega
 ·have:=h.hg.size;have:=hS b hb;omega
 ·have:=hS go hm;omega
theorem zod (p0:fV x.Kind)(p1:x.Name.size<=9223372036854775807)(h2:(iH.sl 9).R w w.heap.size [J A0 x.fP.length c0] x.fP)(h3:(iz.sl 159).R w w.heap.size [J A1 x.Expr.length c1] x.Expr)(hl2:x.fP.length<=1099511627776)(hl3:x.Expr.length<=1099511627776) :
  LR prog 236 #[.agg #[F I x.Kind,G x.Name,J A0 x.fP.length c0,J A1 x.Expr.length c1]] w (mG x w):=by
 go_enter func236,ntmps236;go_wp2_with(fail);have a4:fF w ((w.alloc (C #[F I x.Kind,G x.Name,J A0 x.fP.length c0,J A1 x.Expr.length c1] 87)).alloc (C #[F I 0,G ⟨#[]⟩,J V 0 0,J V 0 0] 87)):=gG;have eb:((w.alloc (C #[F I x.Kind,G x.Name,J A0 x.fP.length c0,J A1 x.Expr.length c1] 87)).alloc (C #[F I 0,G ⟨#[]⟩,J V 0 0,J V 0 0] 87)).heap[w.heap.size]?=H (C #[F I x.Kind,G x.Name,J A0 x.fP.length c0,J A1 x.Expr.length c1] 87 (0,0)):=zj (Lp w _) gF;have er:((w.alloc (C #[F I x.Kind,G x.Name,J A0 x.fP.length c0,J A1 x.Expr.length c1] 87)).alloc (C #[F I 0,G ⟨#[]⟩,J V 0 0,J V 0 0] 87)).heap[w.heap.size+1]?=H (C #[F I 0,G ⟨#[]⟩,J V 0 0,J V 0 0] 87 (0,0)):=by have h:=Lp (w.alloc (C #[F I x.Kind,G x.Name,J A0 x.fP.length c0,J A1 x.Expr.length c1] 87)) (C #[F I 0,G ⟨#[]⟩,J V 0 0,J V 0 0] 87);rw[Mo] at h;exact h
 have d2:=Ty.up _ h2 a4;have d3:=Ty.up _ h3 a4;obtain⟨g,hg⟩:∃ g,w.heap.size=g:=⟨_,rfl⟩
 rw[hg] at eb er |-;generalize ((w.alloc _).alloc _)=Y at a4 eb er d2 d3 |-;obtain⟨y0,y1,y2,y3,_,yl⟩:=jq eb;have zl:=(jq er).2.2.2.2.2;clear h2 h3;refine kC (fun w'=>Lg w' ⟨g,0,V⟩=H (F I x.Kind)/\Lg w' ⟨g,1,V⟩=H (G x.Name)/\Lg w' ⟨g,2,V⟩=H (J A0 x.fP.length c0)/\Lg w' ⟨g,3,V⟩=H (J A1 x.Expr.length c1)) 12 (by kernel_rfl) ⟨zb y0,zb y1,zb y2,zb y3⟩ (fun hH=>?_);have HJ:=J3.start (T:=iH) (K8:=iz) (e:=9) (f:=159) er;have HJ:=HJ.fO ((fF.refl _).drew);generalize hYd:Y.drew=Wx at HJ hH |-;clear hYd;refine .tq 0 [12] hH ?_;refine .tq 1 [12] hH ?_;refine .tq 2 [12] hH ?_;refine .tq 3 [12] hH ?_;refine .tq 5 [12] hH ?_;refine .tq 6 [12] hH ?_;refine .tq 8 [12] hH ?_;refine .tq 9 [12] hH ?_;refine fX.jj (i:=4) (by kernel_rfl) rfl (fun Le hK=>?_)
 ·go_simp
  have HJ:=HJ.lz;refine hK.out _ _ ⟨HJ.cell y0,HJ.cell y1,HJ.cell y2,HJ.cell y3⟩ ?_;clear hK;generalize World.alloc _ (C #[] 9)=Wx at HJ |-
  try simp only[lay]
  refine fX.jj (i:=7) (by kernel_rfl) rfl (fun Le hK=>?_)
  ·refine uv (L:=x.fP.length) rfl (.tmp 7) (.tmp 9) tJ qp HJ.ha (Ty.up _ d2 HJ.hg) rfl rfl rfl (Mb _).symm (by omega) (by omega) ?_
   intro B1 d1 W1 S1 a8 hH hS;rw[Mw] at hH;have HJ:=HJ.nj a8 hH hS;refine hK.out _ _ ⟨HJ.cell y0,HJ.cell y1,HJ.cell y2,HJ.cell y3⟩ ?_;clear hK a8 hH hS
   try simp only[lay]
   refine fX.jj (i:=10) (by kernel_rfl) rfl (fun Le hK=>?_)
   ·go_simp
    go_at_call 252
    with_reducible refine(He (Ty.up _ d3 HJ.hg) hl3).mono ?_
    rintro e v ⟨A8,c8,S8,rfl,a5,a6,a7⟩;have HJ:=HJ.td a7 a5 a6;refine hK.out _ _ ⟨HJ.cell y0,HJ.cell y1,HJ.cell y2,HJ.cell y3⟩ ?_;clear hK a5 a6 a7
    try simp only[lay]
    refine .tq 11 [12] ⟨HJ.cell y0,HJ.cell y1,HJ.cell y2,HJ.cell y3⟩ ?_;obtain⟨a0,a1,a2,a3,af,al⟩:=jq HJ.ho;refine fX.last (by kernel_rfl) rfl (by kernel_rfl) (fun Le hK=>?_);go_simp;refine hK.out _ _ ?_;clear hK
    try simp only[lay]
    have h2:=KH HJ.ho (F I x.Kind) (G x.Name) (J B1 x.fP.length d1) (J A8 x.Expr.length c8);obtain⟨r0,r1,r2,r3,_,_⟩:=jq h2.1;have hA:=HJ.ha.fU h2.2 (fun b hb hm=>HJ.oe (by simp at hm;exact hm ▸ hb));have hB:=HJ.hb.fU h2.2 (fun b hb hm=>HJ.tc (by simp at hm;exact hm ▸ hb));go_wp2_with(fail);exact Ln (v:=.agg #[F I x.Kind,G x.Name,J B1 x.fP.length d1,J A8 x.Expr.length c8]) (by simp[Ly,results236,go_sem,r0,r1,r2,r3]) rfl ⟨_,_,_,_,_,rfl,yQ p0 p1 hA hB HJ.pM,fun b hb=>(LG.1 hb).elim (fun h=>by have:=HJ.la b h;have:=a4.size;omega) (fun h=>by have:=HJ.lb b h;have:=a4.size;omega),h2.2.fO (a4.trans HJ.hg) (fun b hb=>by simp at hb;omega)⟩
theorem zjv (p0:fV x.Kind)(p1:x.Name.size<=9223372036854775807)(h2:(iH.sl 9).R w w.heap.size [J A0 x.fP.length c0] x.fP)(h3:(iz.sl 159).R w w.heap.size [J A1 x.Expr.length c1] x.Expr)(hl2:x.fP.length<=1099511627776)(hl3:x.Expr.length<=1099511627776) :
  LR prog 246 #[.agg #[F I x.Kind,G x.Name,J A0 x.fP.length c0,J A1 x.Expr.length c1]] w (mG x w):=by
 go_enter func246,ntmps246
 go_wp2_with(first
  | (at_builtin;refine AX rfl (.tmp 3) (.tmp 5) tJ qp (Cm (fF.refl _) (by simp)) ((fF.refl _).alloc _) (Ty.up _ h2 gG) rfl rfl rfl (Mb _).symm (by omega) (by omega) ?_;intro B0 d0 os d hF)
  | (at_builtin;refine AX rfl (.tmp 8) (.tmp 10) wQ vi (Cm (fF.refl _) (by simp)) ((fF.refl _).alloc _) (Ty.up _ h3 gG) rfl rfl rfl (Mb _).symm (by omega) (by omega) ?_;intro B1 d1 a1 d2 a0))
 refine Ln (v:=.agg #[F I x.Kind,G x.Name,J B0 x.fP.length d0,J B1 x.Expr.length d1]) (by simp[Ly,results246,go_sem]) rfl ?_;exact mG.mk (GK p0 p1 (hF.qC.same (by repeat (first | with_reducible exact gX.refl _ _ _ | ((with_reducible refine gX.base ?_ ?_) <;> (simp <;> omega)) | ((with_reducible refine gX.more ?_ ?_ _ _);rotate_left;simp <;> omega) | ((with_reducible refine gX.alloc ?_ ?_ _);rotate_left;simp <;> omega) | with_reducible apply gX.drew | with_reducible apply gX.drewN))) (a0.qC.same (by repeat (first | with_reducible exact gX.refl _ _ _ | ((with_reducible refine gX.base ?_ ?_) <;> (simp <;> omega)) | ((with_reducible refine gX.more ?_ ?_ _ _);rotate_left;simp <;> omega) | ((with_reducible refine gX.alloc ?_ ?_ _);rotate_left;simp <;> omega) | with_reducible apply gX.drew | with_reducible apply gX.drewN))) (by simp <;> omega) (by simp <;> omega) (by simp <;> omega)) gG
end Go.Proofs.YtiihkapmggfjkaaGreat
