/-
  PART.
-/
import Derived.Test.YthgbglbaemelhaaGreatM15LawSlices
import Derived.Test.YthgbglbaemelhaaGreatM21LawSlices
set_option linter.unusedVariables false
set_option linter.unusedSimpArgs false
set_option maxRecDepth 100000
set_option maxHeartbeats 8000000
namespace Go.Proofs.YthgbglbaemelhaaGreat
open Value renaming slice->G,int->J,bool->H,string->V
open IntKind renaming i64->C,wrap->QP
open Option renaming none->D,some->Z
open Obj renaming cells->F
open Bool renaming false->I,true->M
open Go renaming World->U,Calls->Rh,Addr->Ri
open World renaming cell?->QL
open RowKit renaming intOf->Ry
open List renaming getElem?_cons_zero->RA
open _root_.Nat renaming add_zero->RK
open Tryz
open Go.RowKit
variable {A:X Ri}{W w:U}{a b d:Int}{c g n z:Nat}{e:TypeId}{l:Q Int}{s:N}
theorem nX {g:Prop} (f:g:=by
  clear hx HXK
  go_wp2_with(go_at_call 43;(with_reducible refine(gY _ _ _ _).mono ?_);rw[hb];rintro e w1 ⟨rfl,rfl⟩)
  go_ret
  exact⟨zo (by rw[<-hE.out,Br HX.out,HR.out];rfl),gG⟩):g:=f
theorem ud {g:Prop} (f:g:=by
  clear HXK
  go_wp2_with(go_at_call 43;(with_reducible refine(gY _ _ _ _).mono ?_);rw[hb];rintro e w1 ⟨rfl,rfl⟩)
  go_roundw
  exact⟨k+1,by show J C r.End=J C ((rs[k]?.map gJ.End).getD 0);rw[HX.out];rfl,by go_num,by omega,fh gG,fh (by rw[<-hE.out,Br HX.out,HR.out];simp[pA,HX.out]),by show 0<=(rs[k]?.map gJ.End).getD 0;rw[HX.out];show 0<=r.End;omega⟩
  exact gH):g:=f
theorem zec {rs:Q gJ} (hx:(kH.sl 205).R w w.heap.size [G A rs.length c] rs) :
  Rh prog 114 #[G A rs.length c] w fun e w'=>e=.returned (H (qA 0 rs))/\ft w w':=by
 obtain⟨_,_,ac,h1,h2⟩:=lu hx;injection ac with e1 e2 e3
 subst e1 e3;clear e2;go_enter func114,ntmps114;go_wp2;go_loopw [3,4] (fun z a wr=>∃ k:Nat,z=J C (pA rs k)/\a=J C k/\k<=rs.length/\Hid (ft w wr)/\Hid (qA (pA rs k) (rs.drop k)=qA 0 rs)/\0<=pA rs k) (fun _ a _=>rs.length-(Ry a).toNat)
 case atStart=>exact⟨0,rfl,rfl,QX _,fh (ft.refl _),fh rfl,SK _⟩
 case round=>
  obtain⟨k,rfl,rfl,hk,hG,hE,ae⟩:=hrel;obtain⟨os,d,rfl⟩:=hG.out;clear hG;by_cases hlt:k<rs.length
  ·obtain⟨g,af,r,hA,ad,a5,x0,x1,x2,x3,bs,be,bd⟩:=Ix hx hlt
   have HX:=fh a5;have HXK:=fh a5;have x0:=zd x0 os d;have x1:=zd x1 os d;have x2:=zd x2 os d;have x3:=zd x3 os d;have ab:(k:Int)<(rs.length:Int):=by omega
   clear a5;subst hA;by_cases a1:r.Start<pA rs k
   ·have a8:decide (r.Start<pA rs k)=M:=QY a1
    have HR:=fh (xV (last:=pA rs k) (r:=r) (by omega));exact nX
   ·have a8:decide (r.Start<pA rs k)=I:=QT a1
    by_cases a2:r.End<=r.Start
    ·have a9:decide (r.End<=r.Start)=M:=QY a2
     have HR:=fh (xV (last:=pA rs k) (r:=r) (by omega));exact nX
    ·have a9:decide (r.End<=r.Start)=I:=QT a2
     by_cases a3:1000000<r.End
     ·have aa:decide (1000000<r.End)=M:=QY a3
      have HR:=fh (xV (last:=pA rs k) (r:=r) (by omega));exact nX
     ·have aa:decide (1000000<r.End)=I:=QT a3
      obtain⟨b,hb⟩:∃ b,fT r.fE 0 1200=b:=⟨_,rfl⟩
      cases b with
      | false=>
       have HR:=fh (xV (last:=pA rs k) (r:=r) (by rw[hb];simp));exact nX
      | true=>
       obtain⟨a4,a7⟩:∃ b,r.Frame=b:=⟨_,rfl⟩
       cases a4 with
       | true=>
        obtain⟨a0,a6⟩:∃ b,(r.fE != 0)=b:=⟨_,rfl⟩
        cases a0 with
        | true=>
         have HR:=fh (xV (last:=pA rs k) (r:=r) (by intro h;have h9:=h.2.2.2.2 a7;simp[h9] at a6));exact nX
        | false=>
         have HR:=fh (zH.2 (show pA rs k<=r.Start/\r.Start<r.End/\r.End<=1000000/\fT r.fE 0 1200=M/\(r.Frame=M->r.fE=0) from⟨by omega,by omega,by omega,hb,fun _=>by simpa using a6⟩));exact ud
       | false=>
        have HR:=fh (zH.2 (show pA rs k<=r.Start/\r.Start<r.End/\r.End<=1000000/\fT r.fE 0 1200=M/\(r.Frame=M->r.fE=0) from⟨by omega,by omega,by omega,hb,fun h=>by rw[a7] at h;cases h⟩));exact ud
  ·have ab:¬ ((k:Int)<(rs.length:Int)):=by omega
   go_wp2_with(fail);go_ret;refine⟨zo ?_,gG⟩;rw[<-hE.out,show k=rs.length from by omega,Rq];rfl
theorem Da (hn:l.length=n)(h0:0<n)(hn2:n<=1000)(hl:∀ x∈l,fD x)(hc:∀ j x,l[j]?=Z x->QL W ⟨g,j,D⟩=Z (J C x)):(zr.sl e).R W (g+1) [G (Z ⟨g,0,D⟩) n n] l:=by
 subst hn;refine⟨Z ⟨g,0,D⟩,l.length,rfl,Q8 _,by omega,fun h=>(by cases h),fun _=>⟨g,0,rfl,Nat.lt_succ_self _,fun i x hx=>⟨[J C x],?_,fun j u hu=>?_⟩⟩⟩
 ·have:=hl x (Q9 hx)
  exact⟨rfl,this.1,this.2⟩
 ·have hj:j=0:=by
   have:=(QM.1 hu).1;simpa using this
  subst hj;simp only[RA,Rv] at hu;subst hu;have:=hc i x hx;simpa[show zr.size=1 from rfl] using this
theorem Im {c:Int} (ha:fD a)(hb:fD b)(hc:fD c)(hd:fD d)(c0:QL W ⟨g,0,D⟩=Z (J C a))(c1:QL W ⟨g,1,D⟩=Z (J C b))(c2:QL W ⟨g,2,D⟩=Z (J C c))(c3:QL W ⟨g,3,D⟩=Z (J C d)):(zr.sl e).R W (g+1) [G (Z ⟨g,0,D⟩) 4 4] [a,b,c,d]:=
 Da rfl (by decide) (by decide) (by simp only[Rp,RO,SH];rintro x (rfl | rfl | rfl | rfl) <;> assumption) (by
  intro j x h
  match j,h with
  | 0,h=>injection h with h;subst h;exact c0
  | 1,h=>injection h with h;subst h;exact c1
  | 2,h=>injection h with h;subst h;exact c2
  | 3,h=>injection h with h;subst h;exact c3
  | j+4,h=>cases h)
theorem O8 {c:Int} (ha:fD a)(hb:fD b)(hc:fD c)(c0:QL W ⟨g,0,D⟩=Z (J C a))(c1:QL W ⟨g,1,D⟩=Z (J C b))(c2:QL W ⟨g,2,D⟩=Z (J C c)):(zr.sl e).R W (g+1) [G (Z ⟨g,0,D⟩) 3 3] [a,b,c]:=
 Da rfl (by decide) (by decide) (by simp only[Rp,RO,SH];rintro x (rfl | rfl | rfl) <;> assumption) (by
  intro j x h
  match j,h with
  | 0,h=>injection h with h;subst h;exact c0
  | 1,h=>injection h with h;subst h;exact c1
  | 2,h=>injection h with h;subst h;exact c2
  | j+3,h=>cases h)
theorem O7 (ha:fD a)(hb:fD b)(c0:QL W ⟨g,0,D⟩=Z (J C a))(c1:QL W ⟨g,1,D⟩=Z (J C b)):(zr.sl e).R W (g+1) [G (Z ⟨g,0,D⟩) 2 2] [a,b]:=
 Da rfl (by decide) (by decide) (by simp only[Rp,RO,SH];rintro x (rfl | rfl) <;> assumption) (by
  intro j x h
  match j,h with
  | 0,h=>injection h with h;subst h;exact c0
  | 1,h=>injection h with h;subst h;exact c1
  | j+2,h=>cases h)
theorem Iy (b:Bool):fD (rO b):=by cases b <;> exact⟨by decide,by decide⟩
theorem zo4 (b:Bool)(w:U):Rh prog 164 #[H b] w fun e w'=>e=.returned (J C (rO b))/\ft w w':=by
 cases b
 ·go_enter func164,ntmps164
  go_wp2_with(fail);go_ret;exact⟨rfl,gG⟩
 ·go_enter func164,ntmps164
  go_wp2_with(fail);go_ret;exact⟨rfl,gG⟩
theorem uD {g:Prop} (f:g:=by
  go_wp2_with(go_at_call 119;(with_reducible refine(zkl (l:=acc) (Ty.up _ hH.out.read gF) (by omega)).mono ?_);rintro e w2 ⟨rfl,hG2⟩)
  go_ret
  exact⟨mH (by rw[HS.out,HE.out]),(hG.out.trans gF).trans hG2⟩):g:=f
theorem zhP {xs:Q gJ} (hx:(kH.sl 205).R w w.heap.size [G A xs.length c] xs)(hl:xs.length<=268435455) :
  Rh prog 120 #[G A xs.length c] w fun e w'=>e=.returned (V (pj xs))/\ft w w':=by
 cases hok:qA 0 xs
 ·have HS:=fh (show pj xs=⟨#[]⟩ from by unfold pj;rw[QZ (by rw[hok];simp)];rfl)
  have HO:=fh hok;clear hok;go_enter func120,ntmps120;go_wp2_with(go_at_call 114;(with_reducible refine(zec (Ty.up _ hx gG)).mono ?_);rw[HO.out];rintro e w1 ⟨rfl,a5,d1,rfl⟩);go_ret;exact⟨mH HS.out.symm,gG⟩
 ·have HS:=fh (show pj xs=nW (qk xs 0) from by unfold pj;rw[Q5 hok])
  have HO:=fh hok;clear hok;go_enter func120,ntmps120;go_wp2_with(go_at_call 114;(with_reducible refine(zec (Ty.up _ hx gG)).mono ?_);rw[HO.out];rintro e w1 ⟨rfl,a5,d1,rfl⟩);go_loopw [3,4,5] (fun a b z wr=>∃(k:Nat) (last:Int) (acc:Q Int) (B:X Ri) (d:Nat) (S:Q Nat),a=G B acc.length d/\b=J C last/\z=J C k/\k<=xs.length/\0<=last/\last<=1000000/\acc.length<=4*k/\Hid (qA last (xs.drop k)=M)/\Hid (acc++qk (xs.drop k) last=qk xs 0)/\Hid (ft w wr)/\Hid (Has (zr.sl 3) wr [G B acc.length d] acc S)/\Hid (∀ b∈S,w.heap.size<=b)) (fun _ _ z _=>xs.length-(Ry z).toNat)
  case atStart=>exact⟨0,0,[],_,0,[w.heap.size+a5.size],rfl,rfl,rfl,QX _,SK _,by omega,by simp,HO,fh rfl,fh gF,fh (Has.emp zr (by have:=QO (fx w a5 d1) (F #[] 3);rwa [lr] at this)),fh (fun b hb=>by simp only[QN] at hb;omega)⟩
  case round=>
   obtain⟨k,last,acc,B,d,S,rfl,rfl,rfl,hk,ae,af,ad,hR,HT,hG,hH,hS⟩:=hrel;by_cases hlt:k<xs.length
   ·have ac:(k:Int)<(xs.length:Int):=by omega
    obtain⟨g,a3,x,hA,ab,a4,x0,x1,x2,x3,b0,b1,b3⟩:=Ix hx hlt;subst hA;have hr:=hR.out;rw[Br a4,Q4] at hr;obtain⟨a6,a7⟩:=hr;obtain⟨e1,e2,e3,e4,_⟩:=zH.1 a6;have a8:=fh a7;have HN:=fh (KX a4 last);have ag:QP C (x.Start-last)=x.Start-last:=iw;have ah:QP C (x.End-x.Start)=x.End-x.Start:=iw;have ai:QP C ((k:Int)+1)=(k:Int)+1:=iw;have h1:fD (x.Start-last):=⟨by omega,by omega⟩
    have h2:fD (x.End-x.Start):=⟨by omega,by omega⟩
    clear a4 a6 a7 e4;have x0:=zG hG.out x0;have x1:=zG hG.out x1;have x2:=zG hG.out x2;have x3:=zG hG.out x3;have a2:g<wr.heap.size:=QS ab hG.out.size;have a1:g∉S:=fun hm=>by have h:=hS.out g hm;omega
    go_upto_region 8 with(fail);go_region_held3 (fun w'=>QL w' ⟨g,a3+k*4,D⟩=Z (J C x.Start)/\QL w' ⟨g,a3+k*4+1,D⟩=Z (J C x.End)/\QL w' ⟨g,a3+k*4+2,D⟩=Z (H x.Frame)/\QL w' ⟨g,a3+k*4+3,D⟩=Z (J C x.fE)) ((repeat' apply QQ) <;> ((repeat (first | with_reducible assumption | with_reducible refine zd ?_ _ _ | with_reducible refine zk ?_ _ | with_reducible refine zc ?_ | with_reducible refine zV ?_ _));done)) (first | (go_at_call 164;(with_reducible refine(zo4 _ _).mono ?_);rintro e w2 ⟨rfl,aj,di,rfl⟩) | (refine zK (L:=acc.length+4) rfl (.tmp 16) (.tmp 46) mg zD (hH.out.fx gF) (ys:=[x.Start-last,x.End-x.Start,rO x.Frame,x.fE]) (Im (e:=3) h1 h2 (Iy x.Frame) b3 (by simp[go_sem]) (by simp[go_sem]) (by simp[go_sem]) (by simp[go_sem])) rfl rfl rfl rfl (by omega) (by omega) ?_;intro B3 c3 W8 S8 a0 a9 aa;have x0:=(a0.cell (g:=g) (QS a2 (ft.size gF)) a1 _).trans (zG gF x0);have x1:=(a0.cell (g:=g) (QS a2 (ft.size gF)) a1 _).trans (zG gF x1);have x2:=(a0.cell (g:=g) (QS a2 (ft.size gF)) a1 _).trans (zG gF x2);have x3:=(a0.cell (g:=g) (QS a2 (ft.size gF)) a1 _).trans (zG gF x3)))
    all_goals go_wp2_with(fail)
    all_goals go_roundw
    exact⟨k+1,x.End,acc++[x.Start-last,x.End-x.Start,rO x.Frame,x.fE],B3,c3,S8,by simp,rfl,by go_num,by omega,by omega,by omega,by simp;omega,a8,fh (by rw[<-HT.out,HN.out];simp),fh (a0.fx (hG.out.trans gF) hS.out),fh (by simpa using a9),fh (fun b hb=>(aa b hb).elim (hS.out b) (fun h=>Rj (hG.out.trans gF).size h))⟩;exact gH
   ·obtain rfl:k=xs.length:=by omega
    have ac:¬ ((xs.length:Int)<(xs.length:Int)):=by omega
    have HE:Hid (acc=qk xs 0):=fh (by have h:=HT.out;rw[Rq] at h;simpa[qk] using h);exact uD
theorem zi2 {xs:Q ir} (hx:(ly.sl 216).R w w.heap.size [G A xs.length c] xs)(hl:xs.length<=268435455) :
  Rh prog 121 #[G A xs.length c] w fun e w'=>e=.returned (V (pv xs))/\ft w w':=by
 cases hok:qC (-1) xs
 ·have HS:=fh (show pv xs=⟨#[]⟩ from by unfold pv;rw[QZ (by rw[hok];simp)];rfl)
  have HO:=fh hok;clear hok;go_enter func121,ntmps121;go_wp2_with(go_at_call 115;(with_reducible refine(ze0 (Ty.up _ hx gG)).mono ?_);rw[HO.out];rintro e w1 ⟨rfl,a0,d1,rfl⟩);go_ret;exact⟨mH HS.out.symm,gG⟩
 ·have HS:=fh (show pv xs=nW (qx xs 0 0) from by unfold pv;rw[Q5 hok])
  have HO:=fh hok;clear hok;go_enter func121,ntmps121;go_wp2_with(go_at_call 115;(with_reducible refine(ze0 (Ty.up _ hx gG)).mono ?_);rw[HO.out];rintro e w1 ⟨rfl,a0,d1,rfl⟩);go_loopw [3,5] (fun a z wr=>∃(k:Nat) (o n:Int) (bs:Bool) (pr:Int) (acc:Q Int) (B:X Ri) (d:Nat) (S:Q Nat),a=G B acc.length d/\z=J C k/\k<=xs.length/\0<=o/\o<=1000000/\0<=n/\n<=1000000/\acc.length<=3*k/\Hid (qC pr (xs.drop k)=M)/\Hid (acc++qx (xs.drop k) o n=qx xs 0 0)/\Hid (ft w wr)/\Hid (Has (zr.sl 3) wr [G B acc.length d] acc S)/\Hid (∀ b∈S,w.heap.size<=b/\b≠w.heap.size+a0.size+1)/\wr.heap[w.heap.size+a0.size+1]?=Z (F #[J C o,J C n,H bs] 216 (0,0))) (fun _ z _=>xs.length-(Ry z).toNat)
  case atStart=>
   exact⟨0,0,0,I,-1,[],_,0,[w.heap.size+a0.size],rfl,rfl,QX _,SK _,by omega,SK _,by omega,by simp,HO,fh rfl,fh gF,fh (Has.emp zr (by have:=QO (fx w a0 d1) (F #[] 3);rw[lr] at this;exact zj this gF)),fh (fun b hb=>by simp only[QN] at hb;omega),by
    have:=QO ((fx w a0 d1).alloc (F #[] 3)) (F #[J C 0,J C 0,H I] 216);rw[Rf,lr] at this
    exact this⟩
  case round=>
   obtain⟨k,o,n,bs,pr,acc,B,d,S,rfl,rfl,hk,al,am,aj,ak,ah,hR,HT,hG,hH,hS,a9⟩:=hrel;have ae:w.heap.size<=w.heap.size+a0.size+1:=by omega
   generalize w.heap.size+a0.size+1=g5 at *
   by_cases hlt:k<xs.length
   ·have ag:(k:Int)<(xs.length:Int):=by omega
    obtain⟨g,a5,x,hA,af,a4,x0,x1,x2,b0,b1⟩:=Dp hx hlt;subst hA;have hr:=hR.out;rw[xU a4,Q4] at hr;obtain⟨aa,ab⟩:=hr;obtain⟨e1,e2,e3⟩:=Oh.1 aa;have ac:=fh ab;have HN:=fh (LK a4 o n);have an:QP C (x.Offset-o)=x.Offset-o:=iw;have ao:QP C (x.fH-n)=x.fH-n:=iw;have ap:QP C ((k:Int)+1)=(k:Int)+1:=iw;have h1:fD (x.Offset-o):=⟨by omega,by omega⟩
    have h2:fD (x.fH-n):=⟨by omega,by omega⟩
    clear a4 aa ab;have x0:=zG hG.out x0;have x1:=zG hG.out x1;have x2:=zG hG.out x2;obtain⟨o0,o1,o2,aq,a6⟩:=jc a9;have ai:g<wr.heap.size:=QS af hG.out.size;have a3:g∉S:=fun hm=>by have h:=(hS.out g hm).1;omega
    have a1:g5∉S:=fun hm=>(hS.out g5 hm).2 rfl;go_upto_region 8 with(fail);go_region_held3 (fun w'=>QL w' ⟨g,a5+k*3,D⟩=Z (J C x.Offset)/\QL w' ⟨g,a5+k*3+1,D⟩=Z (J C x.fH)/\QL w' ⟨g,a5+k*3+2,D⟩=Z (H x.Start)/\QL w' ⟨g5,0,D⟩=Z (J C o)/\QL w' ⟨g5,1,D⟩=Z (J C n)) ((repeat' apply QQ) <;> ((repeat (first | with_reducible assumption | with_reducible refine zd ?_ _ _ | with_reducible refine zk ?_ _ | with_reducible refine zc ?_ | with_reducible refine zV ?_ _));done)) (first | (go_at_call 164;(with_reducible refine(zo4 _ _).mono ?_);rintro e w2 ⟨rfl,ar,di,rfl⟩) | (refine zK (L:=acc.length+3) rfl (.tmp 17) (.tmp 40) mg zD (hH.out.fx gF) (ys:=[x.Offset-o,x.fH-n,rO x.Start]) (O8 (e:=3) h1 h2 (Iy x.Start) (by simp[go_sem]) (by simp[go_sem]) (by simp[go_sem])) rfl rfl rfl rfl (by omega) (by omega) ?_;intro B3 c3 W8 S8 a2 ad a7;have x0:=zz x0 gF a2 a3;have x1:=zz x1 gF a2 a3;have x2:=zz x2 gF a2 a3;have o0:=zz o0 gF a2 a1;have o1:=zz o1 gF a2 a1;have a8:=(a2.block g5 (QS a6 (ft.size gF)) a1).trans (zj a9 gF);obtain⟨p0,p1,p2,pf,pl⟩:=jc a8))
    all_goals go_wp2_with(fail)
    all_goals go_roundw
    case rel=>
     have hs:=rB a8 (J C x.Offset) (J C x.fH) (H x.Start)
     exact⟨k+1,x.Offset,x.fH,x.Start,x.Offset,acc++[x.Offset-o,x.fH-n,rO x.Start],B3,c3,S8,by simp,by go_num,by omega,e1.1,e1.2,e2.1,by omega,by simp;omega,ac,fh (by rw[<-HT.out,HN.out];simp),fh (hs.2.fx (a2.fx (hG.out.trans gF) (fun b hb=>(hS.out b hb).1)) (by simp only[QN];rintro b rfl;exact ae)),fh (Has.fJ (by simpa using ad) hs.2 (fun b hb=>by
      simp only[QN];rcases a7 b hb with h | h
      ·exact(hS.out b h).2
      ·exact TY (QS (QS a6 (ft.size gF)) h))),fh (fun b hb=>(a7 b hb).elim (hS.out b) (fun h=>⟨Rj (hG.out.trans gF).size h,TY (QS (QS a6 (ft.size gF)) h)⟩)),hs.1⟩
    case measure=>exact gH
   ·obtain rfl:k=xs.length:=by omega
    have ag:¬ ((xs.length:Int)<(xs.length:Int)):=by omega
    have HE:Hid (acc=qx xs 0 0):=fh (by have h:=HT.out;rw[Rq] at h;simpa[qx] using h);exact uD
theorem Ag {B:Nat} {xs:Q Int} (h:(zr.sl e).R w B [G A n c] xs)(h0:0<xs.length):∃ g off,A=Z ⟨g,off,D⟩/\g<B/\∀(i:Nat)(x:Int),xs[i]?=Z x->QL w ⟨g,off+i,D⟩=Z (J C x)/\fD x:=by
 obtain⟨A',c',h1,_,_,_,h5⟩:=h;injection h1 with h1 _
 injection h1 with hA _ _
 subst hA;obtain⟨g,off,rfl,hg,h6⟩:=h5 h0;refine⟨g,off,rfl,hg,fun i x hx=>?_⟩;obtain⟨ec,hR,hc⟩:=h6 i x hx;obtain⟨rfl,h7,h8⟩:=hR;have:=hc 0 _ rfl;simp only[show zr.size=1 from rfl,Tq,RK] at this;exact⟨this,h7,h8⟩
def Ct (p:Q gJ × Bool)(w:U)(e:Ending)(w':U):Prop:=∃ A c S,e=.returned (.tuple #[G A p.1.length c,H p.2])/\Has (kH.sl 205) w' [G A p.1.length c] p.1 S/\(∀ b∈S,w.heap.size<=b)/\ft w w'
theorem KN (h:¬ ((iP s 0).2.2=M/\(iP s 0).2.1=s.size/\(iP s 0).1.length % 4=0)):oE s=([],I):=QZ h
theorem Ki (hp:iP s 0=(l,z,M))(hz:z=s.size)(h4:l.length % 4=0):oE s=if pj (mQ l 0)=s then (mQ l 0,M) else ([],I):=by
 unfold oE;rw[hp];exact Q5 ⟨rfl,hz,h4⟩
theorem mN {g:Prop} (f:g:=by
  go_wp2_with(go_at_call 110;(with_reducible refine(zda s 0 _ hs2 h00).mono ?_);rw[HP.out];rintro e w1 ⟨A1,c1,rfl,hF,os1,d1,rfl⟩)
  go_ret2
  exact HB.out _ gF _ (by omega) (yI _ _)):g:=f
theorem uT {g:Prop} (f:g:=by
  refine ARM _ _ (fh rfl) (fh rfl) ?_
  rw[UH]
  intro hh
  simp only[Q4,Rt] at hh
  exact hgood ⟨hh.1.1,by omega,by omega⟩):g:=f
theorem zqk (s:N)(w:U)(hs:s.size<=4194304):Rh prog 111 #[V s] w (Ct (oE s) w):=by
 obtain⟨l,z,ok,hp⟩:∃ l z ok,iP s 0=(l,z,ok):=⟨_,_,_,rfl⟩
 have HP:=fh hp;have hs2:s.size<=1099511627776:=by omega
 have h00:fD 0:=⟨by omega,by omega⟩
 have ae:¬ (ok=M/\z=s.size/\l.length % 4=0)->∀ w',ft w w'->∀ g,w.heap.size<=g->w'.heap[g]?=Z (F #[] 205 (0,0))->Ct (oE s) w (.returned (.tuple #[G (Z ⟨g,0,D⟩) 0 0,H I])) w':=fun hn w' hg g ao hh=>by
  rw[KN (by rw[hp];exact hn)];exact⟨_,0,[g],rfl,Has.emp kH hh,fun b hb=>by simp only[QN] at hb;omega,hg⟩
 have ARM:∀(bz b4:Bool),Hid (((z:Int) == (s.size:Int))=bz)->Hid (((l.length:Int) % 4 == 0)=b4)->(ok && bz && b4)=I->Rh prog 111 #[V s] w (Ct (oE s) w):=by
  intro bz b4 Hz H4 a4
  have HB:=fh (ae (by
   rintro⟨r1,r2,r3⟩;have e1:bz=M:=by rw[<-Hz.out];simp;omega
   have e2:b4=M:=by rw[<-H4.out];simp;omega
   rw[r1,e1,e2] at a4
   cases a4))
  clear hp ae;cases ok
  ·go_enter func111,ntmps111
   exact mN
  ·cases bz
   ·have hz:((z:Int) != (s.size:Int))=M:=by rw[bne,Hz.out];rfl
    go_enter func111,ntmps111;exact mN
   ·cases b4
    ·have hz:((z:Int) != (s.size:Int))=I:=by rw[bne,Hz.out];rfl
     have h4:((l.length:Int) % 4 != 0)=M:=by rw[bne,H4.out];rfl
     go_enter func111,ntmps111;exact mN
    ·cases a4
 by_cases hgood:ok=M/\z=s.size/\l.length % 4=0
 case neg=>
  exact uT
 obtain⟨rfl,ar,h4⟩:=hgood;clear ARM ae;have HY:=fh (Ki hp ar h4);have aJ:((z:Int) != (s.size:Int))=I:=by simp;omega
 have aK:((l.length:Int) % 4 != 0)=I:=by simp;omega
 have ap:=tA (s:=s) (a:=0) hp;have al:=fh ap.2.2.2;have aT:l.length<=4194304:=by omega
 have H4:=fh h4;clear hp ap ar h4;go_enter func111,ntmps111;go_wp2_with(go_at_call 110;(with_reducible refine(zda s 0 _ hs2 h00).mono ?_);rw[HP.out];rintro e w1 ⟨A1,c1,rfl,hF,os1,d1,rfl⟩);go_loopw [7,8,9] (fun a b q wr=>∃(k:Nat) (last:Int) (a5:Q gJ) (A5:X Ri) (c5:Nat) (S:Q Nat),a=G A5 a5.length c5/\b=J C last/\q=J C (k:Int)/\k<=l.length/\-(549755813888*(k:Int))<=last/\last<=549755813888*(k:Int)/\a5.length<=k/\Hid (4*a5.length=k)/\Hid (a5++mQ (l.drop k) last=mQ l 0)/\Hid (ft (fx w os1 d1) wr)/\Hid (Has (kH.sl 205) wr [G A5 a5.length c5] a5 S)/\Hid (∀ b∈S,w.heap.size+os1.size<=b)) (fun _ _ q _=>l.length-(Ry q).toNat)
 case atStart=>exact⟨0,0,[],_,0,[w.heap.size+os1.size],rfl,rfl,rfl,QX _,by omega,by omega,QX _,fh rfl,fh rfl,fh gF,fh (Has.emp kH (yI _ _)),fh (fun b hb=>by simp only[QN] at hb;omega)⟩
 case round=>
  obtain⟨k,last,a5,A5,c5,S,rfl,rfl,rfl,hk,aR,aS,aI,HK,HT,hG,hH,hS⟩:=hrel;by_cases hlt:k<l.length
  ·have h4:=H4.out
   have hK:=HK.out;have aF:(k:Int)<(l.length:Int):=by omega
   obtain⟨g,ak,hA,aE,a4⟩:=Ag hF.read (by omega);subst hA;obtain⟨a0,aa⟩:∃ a,l[k]?=Z a:=⟨_,QW hlt⟩
   obtain⟨a1,ab⟩:∃ a,l[k+1]?=Z a:=⟨_,QW (by omega)⟩
   obtain⟨a2,ah⟩:∃ a,l[k+2]?=Z a:=⟨_,QW (by omega)⟩
   obtain⟨a3,ac⟩:∃ a,l[k+3]?=Z a:=⟨_,QW (by omega)⟩
   have aL:=al.out a0 (Q9 aa);have aM:=al.out a1 (Q9 ab);obtain⟨fb,aC⟩:∃ fb:Bool,(a2 == 1)=fb:=⟨_,rfl⟩
   have ag:=J8 aa ab ah ac last;rw[show decide (a2=1)=fb from aC] at ag;have HN:=fh ag;clear ag;have x0:=zG hG.out (a4 _ _ aa).1;have x1:=zG hG.out (a4 _ _ ab).1;have x2:=zG hG.out (a4 _ _ ah).1;have x3:=zG hG.out (a4 _ _ ac).1;have b3:=(a4 _ _ ac).2;clear a4 aa ab ah ac;have aU:QP C (last+a0)=last+a0:=iw;have aV:QP C (last+a0+a1)=last+a0+a1:=iw;have aN:QP C ((k:Int)+1)=(k:Int)+1:=iw;have aO:QP C ((k:Int)+2)=(k:Int)+2:=iw;have aP:QP C ((k:Int)+3)=(k:Int)+3:=iw;have aQ:QP C ((k:Int)+4)=(k:Int)+4:=iw;have i1:(k:Int)+1<(l.length:Int):=by omega
   have i2:(k:Int)+2<(l.length:Int):=by omega
   have i3:(k:Int)+3<(l.length:Int):=by omega
   have q1:(0:Int)<=(k:Int)+1:=by omega
   have q2:(0:Int)<=(k:Int)+2:=by omega
   have q3:(0:Int)<=(k:Int)+3:=by omega
   have t1:((k:Int)+1).toNat=k+1:=by omega
   have t2:((k:Int)+2).toNat=k+2:=by omega
   have t3:((k:Int)+3).toNat=k+3:=by omega
   have ao:g<wr.heap.size:=QS aE hG.out.size;have aq:w.heap.size+os1.size<=wr.heap.size:=by have:=hG.out.size;rw[lr] at this;exact this
   have aH:=fh h4;have av:=fh (show k+4<=l.length by omega);clear h4 hK;go_upto_region 9 with(fail);go_region_held3 (fun w'=>QL w' ⟨g,ak+k,D⟩=Z (J C a0)/\QL w' ⟨g,ak+(k+2),D⟩=Z (J C a2)/\QL w' ⟨g,ak+(k+3),D⟩=Z (J C a3)) ((repeat' apply QQ) <;> (first | ((repeat (first | assumption | with_reducible refine zd ?_ _ _ | with_reducible refine zk ?_ _ | with_reducible refine zc ?_));done) | (simp[go_sem];done))) (fail);have eb:(wr.alloc (F #[J C (last+a0),J C 0,H fb,J C a3] 205)).drew.heap[wr.heap.size]?=Z (F #[J C (last+a0),J C 0,H fb,J C a3] 205 (0,0)):=QO _ _;have ad:ft wr (wr.alloc (F #[J C (last+a0),J C 0,H fb,J C a3] 205)).drew:=gG;obtain⟨g5,ai⟩:∃ g,wr.heap.size=g:=⟨_,rfl⟩
   rw[ai] at eb aq ao |-;have au:=fh ai;clear ai;generalize (wr.alloc _).drew=Y at eb ad |-;obtain⟨o0,o1,o2,o3,aW⟩:=IG eb;have aD:g5<Y.heap.size:=(blt eb)
   have x1:=zG ad x1;have aj:g5∉S:=fun hm=>by have h:=hH.out.lt g5 hm;have h2:=au.out;omega
   go_upto_region 10 with(fail);go_region;have am:(Y.setCell ⟨g5,1,D⟩ (J C (last+a0+a1))).drew.heap[g5]?=Z (F #[J C (last+a0),J C (last+a0+a1),H fb,J C a3] 205 (0,0)):=jb eb rfl;have a6:fw [g5] Y (Y.setCell ⟨g5,1,D⟩ (J C (last+a0+a1))).drew:=((fw.refl _ _).setCell (p:=⟨g5,1,D⟩) (by simp) _).trans ((ft.drew (ft.refl _)).only _);generalize (Y.setCell _ _).drew=Y2 at am a6 |-;obtain⟨p0,p1,p2,p3,pf⟩:=IG am;have aw:=(hH.out.fx ad).fJ a6 (fun b hb hm=>by simp only[QN] at hm;subst hm;exact aj hb);have an:ft (fx w os1 d1) Y2:=a6.fx (hG.out.trans ad) (by simp only[QN];rintro b rfl;rw[lr];exact aq);have ay:fD (last+a0):=⟨by omega,by omega⟩
   have az:fD (last+a0+a1):=⟨by omega,by omega⟩
   go_wp2_with(refine zA (L:=a5.length+1) rfl (.tmp 68) (.tmp 70) CL BH (aw.fx gF) (W1:=w) (B:=0) (ec:=[J C (last+a0),J C (last+a0+a1),H fb,J C a3]) (y:=⟨last+a0,last+a0+a1,fb,a3⟩) (Bu (x:=⟨last+a0,last+a0+a1,fb,a3⟩) ay az b3) rfl rfl rfl (by intro j u hu;simpa[go_sem] using hu) rfl (by omega) (by omega) ?_;intro A8 c8 W8 S8 aG ax aA);go_roundw;exact⟨k+4,last+a0+a1,a5++[⟨last+a0,last+a0+a1,fb,a3⟩],A8,c8,S8,by simp,rfl,by go_num,av.out,by omega,by omega,by simp;omega,fh (by have:=HK.out;simp;omega),fh (by rw[<-HT.out,HN.out];simp),fh (aG.fx (an.trans gF) (by rw[lr];exact hS.out)),fh (by simpa using ax),fh (fun b hb=>(aA b hb).elim (hS.out b) (fun h=>by have h2:=an.size;rw[lr] at h2;rw[Rf] at h;omega))⟩;exact gH
  ·obtain rfl:k=l.length:=by omega
   have aF:¬ ((l.length:Int)<(l.length:Int)):=by omega
   have HE:a5=mQ l 0:=by have h:=HT.out;rw[Rq] at h;simpa[mQ] using h
   have a8:a5.length<=268435455:=by omega
   by_cases he:pj a5=s
   ·have HR:Hid (oE s=(a5,M)):=fh (by rw[HY.out,<-HE,Q5 he])
    have af:=fh he;have aB:(s.toList != s.toList)=I:=by rw[bne,lp,QY rfl];rfl
    clear he HE;go_wp2_with(go_at_call 120;(with_reducible refine(zhP (xs:=a5) (Ty.up _ hH.out.read gF) a8).mono ?_);rw[af.out];rintro e w9 ⟨rfl,a9⟩);go_ret2;rw[HR.out];exact⟨_,_,S,rfl,hH.out.fx (ft.trans gF a9),fun b hb=>by have:=hS.out b hb;omega,((gF:ft w (fx w os1 d1)).trans hG.out).trans (ft.trans gF a9)⟩
   ·have HR:Hid (oE s=([],I)):=fh (by rw[HY.out,<-HE,QZ he])
    obtain⟨E,hE⟩:∃ E,pj a5=E:=⟨_,rfl⟩
    have af:=fh hE;rw[hE] at he;have aB:(E.toList == s.toList)=I:=by rw[lp,QT he]
    clear he HE hE;go_wp2_with(go_at_call 120;(with_reducible refine(zhP (xs:=a5) (Ty.up _ hH.out.read gF) a8).mono ?_);rw[af.out];rintro e w9 ⟨rfl,a9⟩);go_ret2;rw[HR.out];have a7:ft w w9:=((gF:ft w (fx w os1 d1)).trans hG.out).trans (ft.trans gF a9);exact⟨_,0,[w9.heap.size],rfl,Has.emp kH (QO _ _),fun b hb=>by simp only[QN] at hb;have:=a7.size;omega,a7.trans gF⟩
def CT (p:Q ir × Bool)(w:U)(e:Ending)(w':U):Prop:=∃ A c S,e=.returned (.tuple #[G A p.1.length c,H p.2])/\Has (ly.sl 216) w' [G A p.1.length c] p.1 S/\(∀ b∈S,w.heap.size<=b)/\ft w w'
theorem LS (h:¬ ((iP s 0).2.2=M/\(iP s 0).2.1=s.size/\(iP s 0).1.length % 3=0)):oL s=([],I):=QZ h
theorem KM (hp:iP s 0=(l,z,M))(hz:z=s.size)(h4:l.length % 3=0):oL s=if pv (nk l 0 0)=s then (nk l 0 0,M) else ([],I):=by
 unfold oL;rw[hp];exact Q5 ⟨rfl,hz,h4⟩
theorem zsk (s:N)(w:U)(hs:s.size<=4194304):Rh prog 112 #[V s] w (CT (oL s) w):=by
 obtain⟨l,z,ok,hp⟩:∃ l z ok,iP s 0=(l,z,ok):=⟨_,_,_,rfl⟩
 have HP:=fh hp;have hs2:s.size<=1099511627776:=by omega
 have h00:fD 0:=⟨by omega,by omega⟩
 have ac:¬ (ok=M/\z=s.size/\l.length % 3=0)->∀ w',ft w w'->∀ g,w.heap.size<=g->w'.heap[g]?=Z (F #[] 216 (0,0))->CT (oL s) w (.returned (.tuple #[G (Z ⟨g,0,D⟩) 0 0,H I])) w':=fun hn w' hg g hgw hh=>by
  rw[LS (by rw[hp];exact hn)];exact⟨_,0,[g],rfl,Has.emp ly hh,fun b hb=>by simp only[QN] at hb;omega,hg⟩
 have ARM:∀(bz b4:Bool),Hid (((z:Int) == (s.size:Int))=bz)->Hid (((l.length:Int) % 3 == 0)=b4)->(ok && bz && b4)=I->Rh prog 112 #[V s] w (CT (oL s) w):=by
  intro bz b4 Hz H4 a3
  have HB:=fh (ac (by
   rintro⟨r1,r2,r3⟩;have e1:bz=M:=by rw[<-Hz.out];simp;omega
   have e2:b4=M:=by rw[<-H4.out];simp;omega
   rw[r1,e1,e2] at a3
   cases a3))
  clear hp ac;cases ok
  ·go_enter func112,ntmps112
   exact mN
  ·cases bz
   ·have hz:((z:Int) != (s.size:Int))=M:=by rw[bne,Hz.out];rfl
    go_enter func112,ntmps112;exact mN
   ·cases b4
    ·have hz:((z:Int) != (s.size:Int))=I:=by rw[bne,Hz.out];rfl
     have h4:((l.length:Int) % 3 != 0)=M:=by rw[bne,H4.out];rfl
     go_enter func112,ntmps112;exact mN
    ·cases a3
 by_cases hgood:ok=M/\z=s.size/\l.length % 3=0
 case neg=>
  exact uT
 obtain⟨rfl,an,h4⟩:=hgood;clear ARM ac;have HY:=fh (KM hp an h4);have aE:((z:Int) != (s.size:Int))=I:=by simp;omega
 have aF:((l.length:Int) % 3 != 0)=I:=by simp;omega
 have am:=tA (s:=s) (a:=0) hp;have ai:=fh am.2.2.2;have aP:l.length<=4194304:=by omega
 have H4:=fh h4;clear hp am an h4;go_enter func112,ntmps112;go_wp2_with(go_at_call 110;(with_reducible refine(zda s 0 _ hs2 h00).mono ?_);rw[HP.out];rintro e w1 ⟨A1,c1,rfl,hF,os1,d1,rfl⟩);go_loopw [7,9] (fun a q wr=>∃(k:Nat) (o n:Int) (bs:Bool) (a4:Q ir) (A5:X Ri) (c5:Nat) (S:Q Nat),a=G A5 a4.length c5/\q=J C (k:Int)/\k<=l.length/\-(549755813888*(k:Int))<=o/\o<=549755813888*(k:Int)/\-(549755813888*(k:Int))<=n/\n<=549755813888*(k:Int)/\a4.length<=k/\Hid (3*a4.length=k)/\Hid (a4++nk (l.drop k) o n=nk l 0 0)/\Hid (ft (fx w os1 d1) wr)/\Hid (Has (ly.sl 216) wr [G A5 a4.length c5] a4 S)/\Hid (∀ b∈S,w.heap.size+os1.size<=b/\b≠w.heap.size+os1.size+1)/\wr.heap[w.heap.size+os1.size+1]?=Z (F #[J C o,J C n,H bs] 216 (0,0))) (fun _ q _=>l.length-(Ry q).toNat)
 case atStart=>
  exact⟨0,0,0,I,[],_,0,[w.heap.size+os1.size],rfl,rfl,QX _,by omega,by omega,by omega,by omega,QX _,fh rfl,fh rfl,fh gF,fh (Has.emp ly (by have:=QO (fx w os1 d1) (F #[] 216);rw[lr] at this;exact zj this gF)),fh (fun b hb=>by simp only[QN] at hb;omega),by
    have:=QO ((fx w os1 d1).alloc (F #[] 216)) (F #[J C 0,J C 0,H I] 216);rw[Rf,lr] at this
    exact this⟩
 case round=>
  obtain⟨k,o,n,bs,a4,A5,c5,S,rfl,rfl,hk,aL,aM,aN,aO,aD,HK,HT,hG,hH,hS,ak⟩:=hrel;have az:w.heap.size+os1.size<=w.heap.size+os1.size+1:=by omega
  generalize w.heap.size+os1.size+1=g5 at *
  by_cases hlt:k<l.length
  ·have h4:=H4.out
   have hK:=HK.out;have aB:(k:Int)<(l.length:Int):=by omega
   obtain⟨g,aS,hA,aA,a3⟩:=Ag hF.read (by omega);subst hA;rw[lr] at aA;obtain⟨a0,aa⟩:∃ a,l[k]?=Z a:=⟨_,QW hlt⟩
   obtain⟨a1,ab⟩:∃ a,l[k+1]?=Z a:=⟨_,QW (by omega)⟩
   obtain⟨a2,ag⟩:∃ a,l[k+2]?=Z a:=⟨_,QW (by omega)⟩
   have aG:=ai.out a0 (Q9 aa);have aH:=ai.out a1 (Q9 ab);obtain⟨fb,ay⟩:∃ fb:Bool,(a2 == 1)=fb:=⟨_,rfl⟩
   have ae:=KW aa ab ag o n;rw[show decide (a2=1)=fb from ay] at ae;have HN:=fh ae;clear ae;have x0:=zG hG.out (a3 _ _ aa).1;have x1:=zG hG.out (a3 _ _ ab).1;have x2:=zG hG.out (a3 _ _ ag).1;clear a3 aa ab ag;have aQ:QP C (o+a0)=o+a0:=iw;have aR:QP C (n+a1)=n+a1:=iw;have aI:QP C ((k:Int)+1)=(k:Int)+1:=iw;have aJ:QP C ((k:Int)+2)=(k:Int)+2:=iw;have aK:QP C ((k:Int)+3)=(k:Int)+3:=iw;have i1:(k:Int)+1<(l.length:Int):=by omega
   have i2:(k:Int)+2<(l.length:Int):=by omega
   have q1:(0:Int)<=(k:Int)+1:=by omega
   have q2:(0:Int)<=(k:Int)+2:=by omega
   have t1:((k:Int)+1).toNat=k+1:=by omega
   have t2:((k:Int)+2).toNat=k+2:=by omega
   have ao:=fh (show k+3<=l.length by omega);have a8:g5∉S:=fun hm=>(hS.out g5 hm).2 rfl;obtain⟨o0,o1,o2,aT,aU⟩:=jc ak;clear h4 hK;go_upto_region 9 with(fail);go_region;have ah:=rB ak (J C (o+a0)) (J C (n+a1)) (H fb);have af:(((wr.setCell ⟨g5,0,D⟩ (J C (o+a0))).setCell ⟨g5,1,D⟩ (J C (n+a1))).setCell ⟨g5,2,D⟩ (H fb)).drew.heap[g5]?=Z (F #[J C (o+a0),J C (n+a1),H fb] 216 (0,0)):=ah.1;have a5:fw [g5] wr (((wr.setCell ⟨g5,0,D⟩ (J C (o+a0))).setCell ⟨g5,1,D⟩ (J C (n+a1))).setCell ⟨g5,2,D⟩ (H fb)).drew:=ah.2.trans ((ft.drew (ft.refl _)).only _);clear ah;generalize (((wr.setCell _ _).setCell _ _).setCell _ _).drew=Y2 at af a5 |-;obtain⟨p0,p1,p2,pf,aC⟩:=jc af;have ap:=hH.out.fJ a5 (fun b hb hm=>by simp only[QN] at hm;subst hm;exact a8 hb);have aj:ft (fx w os1 d1) Y2:=a5.fx hG.out (by simp only[QN];rintro b rfl;rw[lr];exact az);have ar:fD (o+a0):=⟨by omega,by omega⟩
   have au:fD (n+a1):=⟨by omega,by omega⟩
   go_wp2_with(refine zA (L:=a4.length+1) rfl (.tmp 61) (.tmp 63) IS Ij (ap.fx gF) (W1:=w) (B:=0) (ec:=[J C (o+a0),J C (n+a1),H fb]) (y:=⟨o+a0,n+a1,fb⟩) (G5 (x:=⟨o+a0,n+a1,fb⟩) ar au) rfl rfl rfl (by intro j u hu;simpa[go_sem] using hu) rfl (by omega) (by omega) ?_;intro A8 c8 W8 S8 al aq av;have aw:=(al.block g5 (QS aC (ft.size gF)) a8).trans (zj af gF));go_roundw;exact⟨k+3,o+a0,n+a1,fb,a4++[⟨o+a0,n+a1,fb⟩],A8,c8,S8,by simp,by go_num,ao.out,by omega,by omega,by omega,by omega,by simp;omega,fh (by have:=HK.out;simp;omega),fh (by rw[<-HT.out,HN.out];simp),fh (al.fx (aj.trans gF) (by rw[lr];exact fun b hb=>(hS.out b hb).1)),fh (by simpa using aq),fh (fun b hb=>(av b hb).elim (hS.out b) (fun h=>by have h2:=aj.size;rw[lr] at h2;rw[Rf] at h;omega)),aw⟩;exact gH
  ·obtain rfl:k=l.length:=by omega
   have aB:¬ ((l.length:Int)<(l.length:Int)):=by omega
   have HE:a4=nk l 0 0:=by have h:=HT.out;rw[Rq] at h;simpa[nk] using h
   have a7:a4.length<=268435455:=by omega
   by_cases he:pv a4=s
   ·have HR:Hid (oL s=(a4,M)):=fh (by rw[HY.out,<-HE,Q5 he])
    have ad:=fh he;have ax:(s.toList != s.toList)=I:=by rw[bne,lp,QY rfl];rfl
    clear he HE;go_wp2_with(go_at_call 121;(with_reducible refine(zi2 (xs:=a4) (Ty.up _ hH.out.read gF) a7).mono ?_);rw[ad.out];rintro e w9 ⟨rfl,a9⟩);go_ret2;rw[HR.out];exact⟨_,_,S,rfl,hH.out.fx (ft.trans gF a9),fun b hb=>by have:=(hS.out b hb).1;omega,((gF:ft w (fx w os1 d1)).trans hG.out).trans (ft.trans gF a9)⟩
   ·have HR:Hid (oL s=([],I)):=fh (by rw[HY.out,<-HE,QZ he])
    obtain⟨E,hE⟩:∃ E,pv a4=E:=⟨_,rfl⟩
    have ad:=fh hE;rw[hE] at he;have ax:(E.toList == s.toList)=I:=by rw[lp,QT he]
    clear he HE hE;go_wp2_with(go_at_call 121;(with_reducible refine(zi2 (xs:=a4) (Ty.up _ hH.out.read gF) a7).mono ?_);rw[ad.out];rintro e w9 ⟨rfl,a9⟩);go_ret2;rw[HR.out];have a6:ft w w9:=((gF:ft w (fx w os1 d1)).trans hG.out).trans (ft.trans gF a9);exact⟨_,0,[w9.heap.size],rfl,Has.emp ly (QO _ _),fun b hb=>by simp only[QN] at hb;have:=a6.size;omega,a6.trans gF⟩
theorem O9 {c:Int} (ha:fD a)(hb:fD b)(hc:fD c)(hd:fD d)(hB:g+1<=W.heap.size)(c0:QL W ⟨g,0,D⟩=Z (J C a))(c1:QL W ⟨g,1,D⟩=Z (J C b))(c2:QL W ⟨g,2,D⟩=Z (J C c))(c3:QL W ⟨g,3,D⟩=Z (J C d)):(zr.sl e).R W W.heap.size [G (Z ⟨g,0,D⟩) 4 4] [a,b,c,d]:=
 Ty.iG _ (Im ha hb hc hd c0 c1 c2 c3) (fun _ _=>rfl) hB
theorem O6 (ha:fD a)(hb:fD b)(hB:g+1<=W.heap.size)(c0:QL W ⟨g,0,D⟩=Z (J C a))(c1:QL W ⟨g,1,D⟩=Z (J C b)):(zr.sl e).R W W.heap.size [G (Z ⟨g,0,D⟩) 2 2] [a,b]:=
 Ty.iG _ (O7 ha hb c0 c1) (fun _ _=>rfl) hB
theorem OQ {c:Int} (hx:(zr.sl 3).R w w.heap.size [G (Z ⟨g,0,D⟩) 4 4] [a,b,c,d]):Rh prog 119 #[G (Z ⟨g,0,D⟩) 4 4] w fun e w'=>e=.returned (V (nW [a,b,c,d]))/\ft w w':=zkl (l:=[a,b,c,d]) hx (by simp)
theorem OP (hx:(zr.sl 3).R w w.heap.size [G (Z ⟨g,0,D⟩) 2 2] [a,b]):Rh prog 119 #[G (Z ⟨g,0,D⟩) 2 2] w fun e w'=>e=.returned (V (nW [a,b]))/\ft w w':=zkl (l:=[a,b]) hx (by simp)
theorem On {l:Q UInt8} {k:Nat} {b:UInt8} (h:l[k]?=Z b):((l.take (k+1)).map fun b=>(b.toNat:Int)).sum=((l.take k).map fun b=>(b.toNat:Int)).sum+(b.toNat:Int):=by
 rw[RH,h];simp
theorem zxe (s:N)(w:U)(hs:s.size<=1099511627776):Rh prog 123 #[V s] w fun e w'=>e=.returned (J C (tK s))/\ft w w':=by
 go_enter func123,ntmps123;go_wp2_with(fail);go_loopw [3,4] (fun a b wr=>∃(k:Nat) (n:Int),a=J C n/\b=J C (k:Int)/\k<=s.size/\0<=n/\n<=255*(k:Int)/\Hid (n=((s.data.toList.take k).map fun b=>(b.toNat:Int)).sum)/\Hid (ft w wr)) (fun _ b _=>s.size-(Ry b).toNat)
 case atStart=>exact⟨0,0,rfl,rfl,QX _,by omega,by omega,fh rfl,fh gF⟩
 case round=>
  obtain⟨k,n,rfl,rfl,hk,a2,a3,HN,hG⟩:=hrel;by_cases hlt:k<s.size
  ·have a1:(k:Int)<(s.size:Int):=by omega
   have a5:QP C ((k:Int)+1)=(k:Int)+1:=iw;obtain⟨b,hb⟩:∃ b,s.data.toList[k]?=Z b:=⟨_,QW (by rw[Dt];exact hlt)⟩
   have a0:=b.toNat_lt
   have a4:s[k]=b:=by
    have:=xR s k hlt;rw[this] at hb;injection hb
   have HS:=fh (On hb);clear hb;have a6:QP C (n+(b.toNat:Int))=n+(b.toNat:Int):=iw;go_wp2_with(fail);go_roundw;exact⟨k+1,n+(b.toNat:Int),rfl,by go_num,by omega,by omega,by omega,fh (by rw[HN.out,HS.out]),fh (hG.out.trans gF)⟩;exact gH
  ·obtain rfl:k=s.size:=by omega
   have HE:=fh (show n=tK s from by
    have h:=HN.out;rw[R7 (by rw[Dt];omega)] at h
    exact h)
   go_wp2_with(fail);go_ret;exact⟨nN HE.out,hG.out.trans gF⟩
theorem zkL {xs:Q fQ} (hx:(kE.sl 214).R w w.heap.size [G A xs.length c] xs)(hl:xs.length<=268435455) :
  Rh prog 122 #[G A xs.length c] w fun e w'=>e=.returned (V (oQ xs))/\ft w w':=by
 cases hok:vK xs
 ·have HS:=fh (show oQ xs=⟨#[]⟩ from by unfold oQ;rw[QZ (by rw[hok];simp)];rfl)
  have HO:=fh hok;clear hok;go_enter func122,ntmps122;go_wp2_with(go_at_call 116;(with_reducible refine(zcN (Ty.up _ hx gG)).mono ?_);rw[HO.out];rintro e w1 ⟨rfl,ae,d1,rfl⟩);go_ret;exact⟨mH HS.out.symm,gG⟩
 ·have HS:=fh (show oQ xs=ry xs (jo xs.length) from by unfold oQ;rw[Q5 hok])
  have a9:=fh (CG xs 0 hok);have HO:=fh hok;clear hok;have ac:=pq (xs.length:Int);obtain⟨E0,a3⟩:∃ E0,jo (xs.length:Int)=E0:=⟨_,rfl⟩
  have a7:=fh a3;rw[a3] at ac;clear a3;go_enter func122,ntmps122
  go_wp2_with(first
   | (go_at_call 116;(with_reducible refine(zcN (Ty.up _ hx gG)).mono ?_);rw[HO.out];rintro e w1 ⟨rfl,ae,d1,rfl⟩)
   | (go_at_call 117;(with_reducible refine(zfs _ _).mono ?_);rw[a7.out];rintro e w2 ⟨rfl,au,d2,rfl⟩))
  go_loopw [3,4] (fun a z wr=>∃(k:Nat) (a0:N),a=V a0/\z=J C (k:Int)/\k<=xs.length/\a0.size<=6+44*k/\Hid (ry (xs.drop k) a0=ry xs E0)/\Hid (ft w wr)) (fun _ z _=>xs.length-(Ry z).toNat)
  case atStart=>exact⟨0,E0,rfl,rfl,QX _,by omega,fh rfl,fh gF⟩
  case round=>
   obtain⟨k,a0,rfl,rfl,hk,al,HT,hG⟩:=hrel;by_cases hlt:k<xs.length
   ·have ad:(k:Int)<(xs.length:Int):=by omega
    obtain⟨g,ap,x,hA,aj,a6,x0,x1,x2,x3,x4,b0,b1,b2,b3,b4⟩:=At hx hlt;subst hA;have ak:=Cy (a9.out x (Q9 a6));have am:QP C ((k:Int)+1)=(k:Int)+1:=iw;have HN:=fh (OG a6 a0);clear a6;have x0:=zG hG.out x0;have x1:=zG hG.out x1;have x2:=zG hG.out x2;have x3:=zG hG.out x3;have x4:=zG hG.out x4;obtain⟨PI,a1⟩:∃ PI,nW [x.Start,x.End,x.Level,x.fH]=PI:=⟨_,rfl⟩
    obtain⟨PT,a2⟩:∃ PT,p8 x.Name=PT:=⟨_,rfl⟩
    have an:PI.size<=30:=by have:=xZ [x.Start,x.End,x.Level,x.fH];rw[a1] at this;simpa using this
    have ao:PT.size<=14:=by have:=sI x.Name;rw[a2] at this;omega
    have HB:Hid (wZ x=PI++PT):=fh (by rw[<-a1,<-a2];rfl);have aa:=fh a1;have ab:=fh a2;clear a1 a2;have ag:¬ (9223372036854775807<a0.size+PI.size):=by omega
    have ah:¬ (9223372036854775807<(a0++PI).size+PT.size):=by rw[mr];omega
    have ai:¬ (9223372036854775807<a0.size+PI.size+PT.size):=by omega
    have a5:x.Name.size<=1099511627775:=by omega
    go_upto_region 8 with(fail);have eb:(wr.alloc (F #[J C x.Start,J C x.End,J C x.Level,J C x.fH,V x.Name] 214)).heap[wr.heap.size]?=Z (F #[J C x.Start,J C x.End,J C x.Level,J C x.fH,V x.Name] 214 (0,0)):=QO _ _;have a8:ft wr (wr.alloc (F #[J C x.Start,J C x.End,J C x.Level,J C x.fH,V x.Name] 214)):=gG;obtain⟨g5,a4⟩:∃ g,wr.heap.size=g:=⟨_,rfl⟩
    rw[a4] at eb |-;have af:=fh a4;clear a4;generalize (wr.alloc _)=Y at eb a8 |-;obtain⟨o0,o1,o2,o3,o4,aq,ar⟩:=iY eb
    go_region_held3 (fun w'=>QL w' ⟨g5,0,D⟩=Z (J C x.Start)/\QL w' ⟨g5,1,D⟩=Z (J C x.End)/\QL w' ⟨g5,2,D⟩=Z (J C x.Level)/\QL w' ⟨g5,3,D⟩=Z (J C x.fH)/\QL w' ⟨g5,4,D⟩=Z (V x.Name)) ((repeat' apply QQ) <;> ((repeat (first | with_reducible assumption | with_reducible refine zd ?_ _ _ | with_reducible refine zk ?_ _ | with_reducible refine zc ?_ | with_reducible refine zV ?_ _));done)) (first
     | (go_at_call 119;(with_reducible refine(OQ (O9 b0 b1 b2 b3 (by simp) (by simp[go_sem]) (by simp[go_sem]) (by simp[go_sem]) (by simp[go_sem]))).mono ?_);rw[aa.out];rintro e w3 ⟨rfl,av,d3,rfl⟩)
     | (go_at_call 118;(with_reducible refine(ziJ x.Name _ a5).mono ?_);rw[ab.out];rintro e w4 ⟨rfl,aw,d4,rfl⟩))
    all_goals go_wp2_with(fail)
    all_goals go_roundw
    all_goals try (case measure=>simp[Ry];omega)
    all_goals exact⟨k+1,a0++PI++PT,rfl,by go_num,by omega,by rw[mr,mr];omega,fh (by rw[<-HT.out,HN.out,HB.out,R9]),fh ((hG.out.trans a8).trans gF)⟩
   ·obtain rfl:k=xs.length:=by omega
    have ad:¬ ((xs.length:Int)<(xs.length:Int)):=by omega
    have HE:Hid (oQ xs=a0):=fh (by have h:=HT.out;rw[Rq] at h;rw[HS.out,a7.out,<-h];rfl);go_wp2_with(fail);go_ret;exact⟨mH HE.out.symm,hG.out.trans gF⟩
end Go.Proofs.YthgbglbaemelhaaGreat
