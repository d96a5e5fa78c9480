/-
  PART.
-/
import Derived.Test.YthgbglbaemelhaaGreatM11LawThreadsApart
set_option linter.unusedVariables false
set_option linter.unusedSimpArgs false
set_option maxRecDepth 100000
set_option maxHeartbeats 8000000
namespace Go.Proofs.YthgbglbaemelhaaGreat
open Value renaming slice->G,int->J,bool->H,string->V
open IntKind renaming i64->Z,wrap->Rg
open Option renaming none->C,some->D
open Obj renaming cells->F
open Bool renaming false->I,true->M
open Go renaming World->U,Calls->RD,Addr->RJ,TypeId->R5
open World renaming cell?->Rb,frozen?->Rx
open RowKit renaming intOf->RS
open List renaming getElem?_cons_zero->RW
open _root_.Nat renaming add_zero->Sr
open Tryz
open Go.RowKit
variable {A:X RJ}{W w:U}{a b d:Int}{c g n z:Nat}{e:R5}{l:Q Int}{s:N}
theorem ov {g:Prop} (f:g:=by
  clear hx HXK
  go_wp2_with(go_at_call 43;(with_reducible refine(gW _ _ _ _).mono ?_);rw[hb];rintro e w1 ⟨rfl,rfl⟩)
  go_ret
  exact⟨zp (by rw[<-hE.out,BR HX.out,HR.out];rfl),gG⟩):g:=f
theorem XB {g:Prop} (f:g:=by
  clear HXK
  go_wp2_with(go_at_call 43;(with_reducible refine(gW _ _ _ _).mono ?_);rw[hb];rintro e w1 ⟨rfl,rfl⟩)
  go_roundw
  exact⟨k+1,by show J Z r.PP=J Z ((rs[k]?.map gK.PP).getD 0);rw[HX.out];rfl,Ar,K9,fh gG,fh (by rw[<-hE.out,BR HX.out,HR.out];simp[pO,HX.out]),by show 0<=(rs[k]?.map gK.PP).getD 0;rw[HX.out];show 0<=r.PP;omega⟩
  exact gM):g:=f
theorem zer {rs:Q gK} (hx:(kK.sl 205).R w w.heap.size [G A rs.length c] rs) :
  RD prog 114 #[G A rs.length c] w fun e w'=>e=.returned (H (qP 0 rs))/\fu w w':=by
 obtain⟨_,_,ac,h1,h2⟩:=kJ hx;injection ac with e1 e2 e3
 subst e1 e3;clear e2;go_enter func114,ntmps114;go_wp2;go_loopw [3,4] (fun z a wr=>∃ k:Nat,z=J Z (pO rs k)/\a=J Z k/\k<=rs.length/\Hid (fu w wr)/\Hid (qP (pO rs k) (rs.drop k)=qP 0 rs)/\0<=pO rs k) (fun _ a _=>rs.length-(RS a).toNat)
 case atStart=>exact⟨0,rfl,rfl,Rl _,fh (fu.refl _),fh rfl,Tz _⟩
 case round=>
  obtain⟨k,rfl,rfl,hk,hG,hE,ae⟩:=hrel;obtain⟨os,d,rfl⟩:=hG.out;clear hG;by_cases hlt:k<rs.length
  ·obtain⟨g,af,r,hA,ad,a5,x0,x1,x2,x3,bs,be,bd⟩:=I7 hx hlt
   have HX:=fh a5;have HXK:=fh a5;have x0:=zd x0 os d;have x1:=zd x1 os d;have x2:=zd x2 os d;have x3:=zd x3 os d;have ab:(k:Int)<(rs.length:Int):=K9;clear a5;subst hA;by_cases a1:r.kw<pO rs k
   ·have a8:decide (r.kw<pO rs k)=M:=Rp a1
    have HR:=fh (yA (last:=pO rs k) (r:=r) K9);exact ov
   ·have a8:decide (r.kw<pO rs k)=I:=Rk a1
    by_cases a2:r.PP<=r.kw
    ·have a9:decide (r.PP<=r.kw)=M:=Rp a2
     have HR:=fh (yA (last:=pO rs k) (r:=r) K9);exact ov
    ·have a9:decide (r.PP<=r.kw)=I:=Rk a2
     by_cases a3:1000000<r.PP
     ·have aa:decide (1000000<r.PP)=M:=Rp a3
      have HR:=fh (yA (last:=pO rs k) (r:=r) K9);exact ov
     ·have aa:decide (1000000<r.PP)=I:=Rk a3
      obtain⟨b,hb⟩:∃ b,fP r.fF 0 1200=b:=⟨_,rfl⟩
      cases b with
      | false=>
       have HR:=fh (yA (last:=pO rs k) (r:=r) (by rw[hb];simp));exact ov
      | true=>
       obtain⟨a4,a7⟩:∃ b,r.Frame=b:=⟨_,rfl⟩
       cases a4 with
       | true=>
        obtain⟨a0,a6⟩:∃ b,(r.fF != 0)=b:=⟨_,rfl⟩
        cases a0 with
        | true=>
         have HR:=fh (yA (last:=pO rs k) (r:=r) (by intro h;have h9:=h.2.2.2.2 a7;simp[h9] at a6));exact ov
        | false=>
         have HR:=fh (AB.2 (show pO rs k<=r.kw/\r.kw<r.PP/\r.PP<=1000000/\fP r.fF 0 1200=M/\(r.Frame=M->r.fF=0) from⟨K9,K9,K9,hb,fun _=>by simpa using a6⟩));exact XB
       | false=>
        have HR:=fh (AB.2 (show pO rs k<=r.kw/\r.kw<r.PP/\r.PP<=1000000/\fP r.fF 0 1200=M/\(r.Frame=M->r.fF=0) from⟨K9,K9,K9,hb,fun h=>by rw[a7] at h;cases h⟩));exact XB
  ·have ab:¬ ((k:Int)<(rs.length:Int)):=K9
   go_wp2_with(fail);go_ret;refine⟨zp ?_,gG⟩;rw[<-hE.out,show k=rs.length from K9,RL];rfl
theorem Dy (hn:l.length=n)(h0:0<n)(hn2:n<=1000)(hl:∀ x∈l,fE x)(hc:∀ j x,l[j]?=D x->Rb W ⟨g,j,C⟩=D (J Z x)):(zr.sl e).R W (g+1) [G (D ⟨g,0,C⟩) n n] l:=by
 subst hn;refine⟨D ⟨g,0,C⟩,l.length,rfl,Ru _,K9,fun h=>(by cases h),fun _=>⟨g,0,rfl,Nat.lt_succ_self _,fun i x hx=>⟨[J Z x],?_,fun j u hu=>?_⟩⟩⟩
 ·have:=hl x (Rt hx)
  exact⟨rfl,this.1,this.2⟩
 ·have hj:j=0:=by
   have:=(Rd.1 hu).1;simpa using this
  subst hj;simp only[RW,RT] at hu;subst hu;have:=hc i x hx;simpa[show zr.size=1 from rfl] using this
theorem Iq {c:Int} (ha:fE a)(hb:fE b)(hc:fE c)(hd:fE d)(c0:Rb W ⟨g,0,C⟩=D (J Z a))(c1:Rb W ⟨g,1,C⟩=D (J Z b))(c2:Rb W ⟨g,2,C⟩=D (J Z c))(c3:Rb W ⟨g,3,C⟩=D (J Z d)):(zr.sl e).R W (g+1) [G (D ⟨g,0,C⟩) 4 4] [a,b,c,d]:=
 Dy rfl qo qo (by simp only[RO,Sq,Tm];rintro x (rfl | rfl | rfl | rfl) <;> assumption) (by
  intro j x h
  match j,h with
  | 0,h=>injection h with h;subst h;exact c0
  | 1,h=>injection h with h;subst h;exact c1
  | 2,h=>injection h with h;subst h;exact c2
  | 3,h=>injection h with h;subst h;exact c3
  | j+4,h=>cases h)
theorem PZ {c:Int} (ha:fE a)(hb:fE b)(hc:fE c)(c0:Rb W ⟨g,0,C⟩=D (J Z a))(c1:Rb W ⟨g,1,C⟩=D (J Z b))(c2:Rb W ⟨g,2,C⟩=D (J Z c)):(zr.sl e).R W (g+1) [G (D ⟨g,0,C⟩) 3 3] [a,b,c]:=
 Dy rfl qo qo (by simp only[RO,Sq,Tm];rintro x (rfl | rfl | rfl) <;> assumption) (by
  intro j x h
  match j,h with
  | 0,h=>injection h with h;subst h;exact c0
  | 1,h=>injection h with h;subst h;exact c1
  | 2,h=>injection h with h;subst h;exact c2
  | j+3,h=>cases h)
theorem PY (ha:fE a)(hb:fE b)(c0:Rb W ⟨g,0,C⟩=D (J Z a))(c1:Rb W ⟨g,1,C⟩=D (J Z b)):(zr.sl e).R W (g+1) [G (D ⟨g,0,C⟩) 2 2] [a,b]:=
 Dy rfl qo qo (by simp only[RO,Sq,Tm];rintro x (rfl | rfl) <;> assumption) (by
  intro j x h
  match j,h with
  | 0,h=>injection h with h;subst h;exact c0
  | 1,h=>injection h with h;subst h;exact c1
  | j+2,h=>cases h)
theorem I8 (b:Bool):fE (sx b):=by cases b <;> exact⟨qo,qo⟩
theorem zpm (b:Bool)(w:U):RD prog 164 #[H b] w fun e w'=>e=.returned (J Z (sx b))/\fu w w':=by
 cases b
 ·go_enter func164,ntmps164
  go_wp2_with(fail);go_ret;exact⟨rfl,gG⟩
 ·go_enter func164,ntmps164
  go_wp2_with(fail);go_ret;exact⟨rfl,gG⟩
theorem Xm {g:Prop} (f:g:=by
  go_wp2_with(go_at_call 119;(with_reducible refine(zkE (l:=acc) (Ty.up _ hH.out.read gF) K9).mono ?_);rintro e w2 ⟨rfl,hG2⟩)
  go_ret
  exact⟨mP (by rw[HS.out,HE.out]),(hG.out.trans gF).trans hG2⟩):g:=f
theorem zh7 {xs:Q gK} (hx:(kK.sl 205).R w w.heap.size [G A xs.length c] xs)(hl:xs.length<=268435455) :
  RD prog 120 #[G A xs.length c] w fun e w'=>e=.returned (V (pA xs))/\fu w w':=by
 cases hok:qP 0 xs
 ·have HS:=fh (show pA xs=⟨#[]⟩ from by unfold pA;rw[Ro (by rw[hok];simp)];rfl)
  have HO:=fh hok;clear hok;go_enter func120,ntmps120;go_wp2_with(go_at_call 114;(with_reducible refine(zer (Ty.up _ hx gG)).mono ?_);rw[HO.out];rintro e w1 ⟨rfl,a5,d1,rfl⟩);go_ret;exact⟨mP HS.out.symm,gG⟩
 ·have HS:=fh (show pA xs=og (qH xs 0) from by unfold pA;rw[Rs hok])
  have HO:=fh hok;clear hok;go_enter func120,ntmps120;go_wp2_with(go_at_call 114;(with_reducible refine(zer (Ty.up _ hx gG)).mono ?_);rw[HO.out];rintro e w1 ⟨rfl,a5,d1,rfl⟩);go_loopw [3,4,5] (fun a b z wr=>∃(k:Nat) (last:Int) (acc:Q Int) (B:X RJ) (d:Nat) (S:Q Nat),a=G B acc.length d/\b=J Z last/\z=J Z k/\k<=xs.length/\0<=last/\last<=1000000/\acc.length<=4*k/\Hid (qP last (xs.drop k)=M)/\Hid (acc++qH (xs.drop k) last=qH xs 0)/\Hid (fu w wr)/\Hid (Has (zr.sl 3) wr [G B acc.length d] acc S)/\Hid (∀ b∈S,w.heap.size<=b)) (fun _ _ z _=>xs.length-(RS z).toNat)
  case atStart=>exact⟨0,0,[],_,0,[w.heap.size+a5.size],rfl,rfl,rfl,Rl _,Tz _,K9,II,HO,fh rfl,fh gF,fh (Has.Wy zr (by have:=Re (fy w a5 d1) (F #[] 3);rwa [kH] at this)),fh (fun b hb=>by simp only[Rc] at hb;omega)⟩
  case round=>
   obtain⟨k,last,acc,B,d,S,rfl,rfl,rfl,hk,ae,af,ad,hR,HT,hG,hH,hS⟩:=hrel;by_cases hlt:k<xs.length
   ·have ac:(k:Int)<(xs.length:Int):=K9
    obtain⟨g,a3,x,hA,ab,a4,x0,x1,x2,x3,b0,b1,b3⟩:=I7 hx hlt;subst hA;have hr:=hR.out;rw[BR a4,Rq] at hr;obtain⟨a6,a7⟩:=hr;obtain⟨e1,e2,e3,e4,_⟩:=AB.1 a6;have a8:=fh a7;have HN:=fh (Ll a4 last);have ag:Rg Z (x.kw-last)=x.kw-last:=iw;have ah:Rg Z (x.PP-x.kw)=x.PP-x.kw:=iw;have ai:Rg Z ((k:Int)+1)=(k:Int)+1:=iw;have h1:fE (x.kw-last):=⟨K9,K9⟩
    have h2:fE (x.PP-x.kw):=⟨K9,K9⟩
    clear a4 a6 a7 e4;have x0:=zM hG.out x0;have x1:=zM hG.out x1;have x2:=zM hG.out x2;have x3:=zM hG.out x3;have a2:g<wr.heap.size:=Ri ab hG.out.size;have a1:g∉S:=fun hm=>by have h:=hS.out g hm;omega
    go_upto_region 8 with(fail);go_region_held3 (fun w'=>Rb w' ⟨g,a3+k*4,C⟩=D (J Z x.kw)/\Rb w' ⟨g,a3+k*4+1,C⟩=D (J Z x.PP)/\Rb w' ⟨g,a3+k*4+2,C⟩=D (H x.Frame)/\Rb w' ⟨g,a3+k*4+3,C⟩=D (J Z x.fF)) ((repeat' apply Rf) <;> ((repeat (first | with_reducible assumption | with_reducible refine zd ?_ _ _ | with_reducible refine zo ?_ _ | with_reducible refine zc ?_ | with_reducible refine mC ?_ _));done)) (first | (go_at_call 164;(with_reducible refine(zpm _ _).mono ?_);rintro e w2 ⟨rfl,aj,di,rfl⟩) | (refine zR (L:=acc.length+4) rfl (.tmp 16) (.tmp 46) lN zE (hH.out.fy gF) (ys:=[x.kw-last,x.PP-x.kw,sx x.Frame,x.fF]) (Iq (e:=3) h1 h2 (I8 x.Frame) b3 (by simp[go_sem]) (by simp[go_sem]) (by simp[go_sem]) (by simp[go_sem])) rfl rfl rfl rfl K9 K9 ?_;intro B3 c3 W8 S8 a0 a9 aa;have x0:=(a0.cell (g:=g) (Ri a2 (fu.size gF)) a1 _).trans (zM gF x0);have x1:=(a0.cell (g:=g) (Ri a2 (fu.size gF)) a1 _).trans (zM gF x1);have x2:=(a0.cell (g:=g) (Ri a2 (fu.size gF)) a1 _).trans (zM gF x2);have x3:=(a0.cell (g:=g) (Ri a2 (fu.size gF)) a1 _).trans (zM gF x3)))
    all_goals go_wp2_with(fail)
    all_goals go_roundw
    exact⟨k+1,x.PP,acc++[x.kw-last,x.PP-x.kw,sx x.Frame,x.fF],B3,c3,S8,II,rfl,Ar,K9,K9,K9,by simp;omega,a8,fh (by rw[<-HT.out,HN.out];simp),fh (a0.fy (hG.out.trans gF) hS.out),fh (by simpa using a9),fh (fun b hb=>(aa b hb).elim (hS.out b) (fun h=>RG (hG.out.trans gF).size h))⟩;exact gM
   ·obtain rfl:k=xs.length:=K9
    have ac:¬ ((xs.length:Int)<(xs.length:Int)):=K9;have HE:Hid (acc=qH xs 0):=fh (by have h:=HT.out;rw[RL] at h;simpa[qH] using h);exact Xm
theorem zjk {xs:Q iu} (hx:(lE.sl 216).R w w.heap.size [G A xs.length c] xs)(hl:xs.length<=268435455) :
  RD prog 121 #[G A xs.length c] w fun e w'=>e=.returned (V (pH xs))/\fu w w':=by
 cases hok:qS (-1) xs
 ·have HS:=fh (show pH xs=⟨#[]⟩ from by unfold pH;rw[Ro (by rw[hok];simp)];rfl)
  have HO:=fh hok;clear hok;go_enter func121,ntmps121;go_wp2_with(go_at_call 115;(with_reducible refine(zfh (Ty.up _ hx gG)).mono ?_);rw[HO.out];rintro e w1 ⟨rfl,a0,d1,rfl⟩);go_ret;exact⟨mP HS.out.symm,gG⟩
 ·have HS:=fh (show pH xs=og (qM xs 0 0) from by unfold pH;rw[Rs hok])
  have HO:=fh hok;clear hok;go_enter func121,ntmps121;go_wp2_with(go_at_call 115;(with_reducible refine(zfh (Ty.up _ hx gG)).mono ?_);rw[HO.out];rintro e w1 ⟨rfl,a0,d1,rfl⟩);go_loopw [3,5] (fun a z wr=>∃(k:Nat) (o n:Int) (bs:Bool) (pr:Int) (acc:Q Int) (B:X RJ) (d:Nat) (S:Q Nat),a=G B acc.length d/\z=J Z k/\k<=xs.length/\0<=o/\o<=1000000/\0<=n/\n<=1000000/\acc.length<=3*k/\Hid (qS pr (xs.drop k)=M)/\Hid (acc++qM (xs.drop k) o n=qM xs 0 0)/\Hid (fu w wr)/\Hid (Has (zr.sl 3) wr [G B acc.length d] acc S)/\Hid (∀ b∈S,w.heap.size<=b/\b≠w.heap.size+a0.size+1)/\wr.heap[w.heap.size+a0.size+1]?=D (F #[J Z o,J Z n,H bs] 216 (0,0))) (fun _ z _=>xs.length-(RS z).toNat)
  case atStart=>
   exact⟨0,0,0,I,-1,[],_,0,[w.heap.size+a0.size],rfl,rfl,Rl _,Tz _,K9,Tz _,K9,II,HO,fh rfl,fh gF,fh (Has.Wy zr (by have:=Re (fy w a0 d1) (F #[] 3);rw[kH] at this;exact zj this gF)),fh (fun b hb=>by simp only[Rc] at hb;omega),by
    have:=Re ((fy w a0 d1).alloc (F #[] 3)) (F #[J Z 0,J Z 0,H I] 216);rw[Rz,kH] at this
    exact this⟩
  case round=>
   obtain⟨k,o,n,bs,pr,acc,B,d,S,rfl,rfl,hk,al,am,aj,ak,ah,hR,HT,hG,hH,hS,a9⟩:=hrel;have ae:w.heap.size<=w.heap.size+a0.size+1:=K9;generalize w.heap.size+a0.size+1=g5 at *
   by_cases hlt:k<xs.length
   ·have ag:(k:Int)<(xs.length:Int):=K9
    obtain⟨g,a5,x,hA,af,a4,x0,x1,x2,b0,b1⟩:=DK hx hlt;subst hA;have hr:=hR.out;rw[yv a4,Rq] at hr;obtain⟨aa,ab⟩:=hr;obtain⟨e1,e2,e3⟩:=Pq.1 aa;have ac:=fh ab;have HN:=fh (MG a4 o n);have an:Rg Z (x.us-o)=x.us-o:=iw;have ao:Rg Z (x.fG-n)=x.fG-n:=iw;have ap:Rg Z ((k:Int)+1)=(k:Int)+1:=iw;have h1:fE (x.us-o):=⟨K9,K9⟩
    have h2:fE (x.fG-n):=⟨K9,K9⟩
    clear a4 aa ab;have x0:=zM hG.out x0;have x1:=zM hG.out x1;have x2:=zM hG.out x2;obtain⟨o0,o1,o2,aq,a6⟩:=iS a9;have ai:g<wr.heap.size:=Ri af hG.out.size;have a3:g∉S:=fun hm=>by have h:=(hS.out g hm).1;omega
    have a1:g5∉S:=fun hm=>(hS.out g5 hm).2 rfl;go_upto_region 8 with(fail);go_region_held3 (fun w'=>Rb w' ⟨g,a5+k*3,C⟩=D (J Z x.us)/\Rb w' ⟨g,a5+k*3+1,C⟩=D (J Z x.fG)/\Rb w' ⟨g,a5+k*3+2,C⟩=D (H x.kw)/\Rb w' ⟨g5,0,C⟩=D (J Z o)/\Rb w' ⟨g5,1,C⟩=D (J Z n)) ((repeat' apply Rf) <;> ((repeat (first | with_reducible assumption | with_reducible refine zd ?_ _ _ | with_reducible refine zo ?_ _ | with_reducible refine zc ?_ | with_reducible refine mC ?_ _));done)) (first | (go_at_call 164;(with_reducible refine(zpm _ _).mono ?_);rintro e w2 ⟨rfl,ar,di,rfl⟩) | (refine zR (L:=acc.length+3) rfl (.tmp 17) (.tmp 40) lN zE (hH.out.fy gF) (ys:=[x.us-o,x.fG-n,sx x.kw]) (PZ (e:=3) h1 h2 (I8 x.kw) (by simp[go_sem]) (by simp[go_sem]) (by simp[go_sem])) rfl rfl rfl rfl K9 K9 ?_;intro B3 c3 W8 S8 a2 ad a7;have x0:=zC x0 gF a2 a3;have x1:=zC x1 gF a2 a3;have x2:=zC x2 gF a2 a3;have o0:=zC o0 gF a2 a1;have o1:=zC o1 gF a2 a1;have a8:=(a2.block g5 (Ri a6 (fu.size gF)) a1).trans (zj a9 gF);obtain⟨p0,p1,p2,pf,pl⟩:=iS a8))
    all_goals go_wp2_with(fail)
    all_goals go_roundw
    case rel=>
     have hs:=rR a8 (J Z x.us) (J Z x.fG) (H x.kw)
     exact⟨k+1,x.us,x.fG,x.kw,x.us,acc++[x.us-o,x.fG-n,sx x.kw],B3,c3,S8,II,Ar,K9,e1.1,e1.2,e2.1,K9,by simp;omega,ac,fh (by rw[<-HT.out,HN.out];simp),fh (hs.2.fy (a2.fy (hG.out.trans gF) (fun b hb=>(hS.out b hb).1)) (by simp only[Rc];rintro b rfl;exact ae)),fh (Has.fJ (by simpa using ad) hs.2 (fun b hb=>by
      simp only[Rc];rcases a7 b hb with h | h
      ·exact(hS.out b h).2
      ·exact Ut (Ri (Ri a6 (fu.size gF)) h))),fh (fun b hb=>(a7 b hb).elim (hS.out b) (fun h=>⟨RG (hG.out.trans gF).size h,Ut (Ri (Ri a6 (fu.size gF)) h)⟩)),hs.1⟩
    case measure=>exact gM
   ·obtain rfl:k=xs.length:=K9
    have ag:¬ ((xs.length:Int)<(xs.length:Int)):=K9;have HE:Hid (acc=qM xs 0 0):=fh (by have h:=HT.out;rw[RL] at h;simpa[qM] using h);exact Xm
theorem AW {B:Nat} {xs:Q Int} (h:(zr.sl e).R w B [G A n c] xs)(h0:0<xs.length):∃ g off,A=D ⟨g,off,C⟩/\g<B/\∀(i:Nat)(x:Int),xs[i]?=D x->Rb w ⟨g,off+i,C⟩=D (J Z x)/\fE x:=by
 obtain⟨A',c',h1,_,_,_,h5⟩:=h;injection h1 with h1 _
 injection h1 with hA _ _
 subst hA;obtain⟨g,off,rfl,hg,h6⟩:=h5 h0;refine⟨g,off,rfl,hg,fun i x hx=>?_⟩;obtain⟨ec,hR,hc⟩:=h6 i x hx;obtain⟨rfl,h7,h8⟩:=hR;have:=hc 0 _ rfl;simp only[show zr.size=1 from rfl,TO,Sr] at this;exact⟨this,h7,h8⟩
def CM (p:Q gK × Bool)(w:U)(e:Ending)(w':U):Prop:=∃ A c S,e=.returned (.tuple #[G A p.1.length c,H p.2])/\Has (kK.sl 205) w' [G A p.1.length c] p.1 S/\(∀ b∈S,w.heap.size<=b)/\fu w w'
theorem KV (h:¬ ((iR s 0).2.2=M/\(iR s 0).2.1=s.size/\(iR s 0).1.length % 4=0)):oQ s=([],I):=Ro h
theorem Kx (hp:iR s 0=(l,z,M))(hz:z=s.size)(h4:l.length % 4=0):oQ s=if pA (m9 l 0)=s then (m9 l 0,M) else ([],I):=by
 unfold oQ;rw[hp];exact Rs ⟨rfl,hz,h4⟩
theorem WE {g:Prop} (f:g:=by
  go_wp2_with(go_at_call 110;(with_reducible refine(zdm s 0 _ hs2 h00).mono ?_);rw[HP.out];rintro e w1 ⟨A1,c1,rfl,hF,os1,d1,rfl⟩)
  go_ret2
  exact HB.out _ gF _ K9 (zs _ _)):g:=f
theorem Xp {g:Prop} (f:g:=by
  refine ARM _ _ (fh rfl) (fh rfl) ?_
  rw[U4]
  intro hh
  simp only[Rq,RQ] at hh
  exact hgood ⟨hh.1.1,K9,K9⟩):g:=f
theorem zqL (s:N)(w:U)(hs:s.size<=4194304):RD prog 111 #[V s] w (CM (oQ s) w):=by
 obtain⟨l,z,ok,hp⟩:∃ l z ok,iR s 0=(l,z,ok):=⟨_,_,_,rfl⟩
 have HP:=fh hp;have hs2:s.size<=1099511627776:=K9;have h00:fE 0:=⟨K9,K9⟩
 have ae:¬ (ok=M/\z=s.size/\l.length % 4=0)->∀ w',fu w w'->∀ g,w.heap.size<=g->w'.heap[g]?=D (F #[] 205 (0,0))->CM (oQ s) w (.returned (.tuple #[G (D ⟨g,0,C⟩) 0 0,H I])) w':=fun hn w' hg g ao hh=>by
  rw[KV (by rw[hp];exact hn)];exact⟨_,0,[g],rfl,Has.Wy kK hh,fun b hb=>by simp only[Rc] at hb;omega,hg⟩
 have ARM:∀(bz b4:Bool),Hid (((z:Int) == (s.size:Int))=bz)->Hid (((l.length:Int) % 4 == 0)=b4)->(ok && bz && b4)=I->RD prog 111 #[V s] w (CM (oQ s) w):=by
  intro bz b4 Hz H4 a4
  have HB:=fh (ae (by
   rintro⟨r1,r2,r3⟩;have e1:bz=M:=by rw[<-Hz.out];simp;omega
   have e2:b4=M:=by rw[<-H4.out];simp;omega
   rw[r1,e1,e2] at a4
   cases a4))
  clear hp ae;cases ok
  ·go_enter func111,ntmps111
   exact WE
  ·cases bz
   ·have hz:((z:Int) != (s.size:Int))=M:=by rw[bne,Hz.out];rfl
    go_enter func111,ntmps111;exact WE
   ·cases b4
    ·have hz:((z:Int) != (s.size:Int))=I:=by rw[bne,Hz.out];rfl
     have h4:((l.length:Int) % 4 != 0)=M:=by rw[bne,H4.out];rfl
     go_enter func111,ntmps111;exact WE
    ·cases a4
 by_cases hgood:ok=M/\z=s.size/\l.length % 4=0
 case neg=>
  exact Xp
 obtain⟨rfl,ar,h4⟩:=hgood;clear ARM ae;have HY:=fh (Kx hp ar h4);have aJ:((z:Int) != (s.size:Int))=I:=by simp;omega
 have aK:((l.length:Int) % 4 != 0)=I:=by simp;omega
 have ap:=tV (s:=s) (a:=0) hp;have al:=fh ap.2.2.2;have aT:l.length<=4194304:=K9;have H4:=fh h4;clear hp ap ar h4;go_enter func111,ntmps111;go_wp2_with(go_at_call 110;(with_reducible refine(zdm s 0 _ hs2 h00).mono ?_);rw[HP.out];rintro e w1 ⟨A1,c1,rfl,hF,os1,d1,rfl⟩);go_loopw [7,8,9] (fun a b q wr=>∃(k:Nat) (last:Int) (a5:Q gK) (A5:X RJ) (c5:Nat) (S:Q Nat),a=G A5 a5.length c5/\b=J Z last/\q=J Z (k:Int)/\k<=l.length/\-(549755813888*(k:Int))<=last/\last<=549755813888*(k:Int)/\a5.length<=k/\Hid (4*a5.length=k)/\Hid (a5++m9 (l.drop k) last=m9 l 0)/\Hid (fu (fy w os1 d1) wr)/\Hid (Has (kK.sl 205) wr [G A5 a5.length c5] a5 S)/\Hid (∀ b∈S,w.heap.size+os1.size<=b)) (fun _ _ q _=>l.length-(RS q).toNat)
 case atStart=>exact⟨0,0,[],_,0,[w.heap.size+os1.size],rfl,rfl,rfl,Rl _,K9,K9,Rl _,fh rfl,fh rfl,fh gF,fh (Has.Wy kK (zs _ _)),fh (fun b hb=>by simp only[Rc] at hb;omega)⟩
 case round=>
  obtain⟨k,last,a5,A5,c5,S,rfl,rfl,rfl,hk,aR,aS,aI,HK,HT,hG,hH,hS⟩:=hrel;by_cases hlt:k<l.length
  ·have h4:=H4.out
   have hK:=HK.out;have aF:(k:Int)<(l.length:Int):=K9;obtain⟨g,ak,hA,aE,a4⟩:=AW hF.read K9;subst hA;obtain⟨a0,aa⟩:∃ a,l[k]?=D a:=⟨_,Rn hlt⟩
   obtain⟨a1,ab⟩:∃ a,l[k+1]?=D a:=⟨_,Rn K9⟩
   obtain⟨a2,ah⟩:∃ a,l[k+2]?=D a:=⟨_,Rn K9⟩
   obtain⟨a3,ac⟩:∃ a,l[k+3]?=D a:=⟨_,Rn K9⟩
   have aL:=al.out a0 (Rt aa);have aM:=al.out a1 (Rt ab);obtain⟨fb,aC⟩:∃ fb:Bool,(a2 == 1)=fb:=⟨_,rfl⟩
   have ag:=K1 aa ab ah ac last;rw[show decide (a2=1)=fb from aC] at ag;have HN:=fh ag;clear ag;have x0:=zM hG.out (a4 _ _ aa).1;have x1:=zM hG.out (a4 _ _ ab).1;have x2:=zM hG.out (a4 _ _ ah).1;have x3:=zM hG.out (a4 _ _ ac).1;have b3:=(a4 _ _ ac).2;clear a4 aa ab ah ac;have aU:Rg Z (last+a0)=last+a0:=iw;have aV:Rg Z (last+a0+a1)=last+a0+a1:=iw;have aN:Rg Z ((k:Int)+1)=(k:Int)+1:=iw;have aO:Rg Z ((k:Int)+2)=(k:Int)+2:=iw;have aP:Rg Z ((k:Int)+3)=(k:Int)+3:=iw;have aQ:Rg Z ((k:Int)+4)=(k:Int)+4:=iw;have i1:(k:Int)+1<(l.length:Int):=K9;have i2:(k:Int)+2<(l.length:Int):=K9;have i3:(k:Int)+3<(l.length:Int):=K9;have q1:(0:Int)<=(k:Int)+1:=K9;have q2:(0:Int)<=(k:Int)+2:=K9;have q3:(0:Int)<=(k:Int)+3:=K9;have t1:((k:Int)+1).toNat=k+1:=K9;have t2:((k:Int)+2).toNat=k+2:=K9;have t3:((k:Int)+3).toNat=k+3:=K9;have ao:g<wr.heap.size:=Ri aE hG.out.size;have aq:w.heap.size+os1.size<=wr.heap.size:=by have:=hG.out.size;rw[kH] at this;exact this
   have aH:=fh h4;have av:=fh (show k+4<=l.length from K9);clear h4 hK;go_upto_region 9 with(fail);go_region_held3 (fun w'=>Rb w' ⟨g,ak+k,C⟩=D (J Z a0)/\Rb w' ⟨g,ak+(k+2),C⟩=D (J Z a2)/\Rb w' ⟨g,ak+(k+3),C⟩=D (J Z a3)) ((repeat' apply Rf) <;> (first | ((repeat (first | assumption | with_reducible refine zd ?_ _ _ | with_reducible refine zo ?_ _ | with_reducible refine zc ?_));done) | (simp[go_sem];done))) (fail);have eb:(wr.alloc (F #[J Z (last+a0),J Z 0,H fb,J Z a3] 205)).drew.heap[wr.heap.size]?=D (F #[J Z (last+a0),J Z 0,H fb,J Z a3] 205 (0,0)):=Re _ _;have ad:fu wr (wr.alloc (F #[J Z (last+a0),J Z 0,H fb,J Z a3] 205)).drew:=gG;obtain⟨g5,ai⟩:∃ g,wr.heap.size=g:=⟨_,rfl⟩
   rw[ai] at eb aq ao |-;have au:=fh ai;clear ai;generalize (wr.alloc _).drew=Y at eb ad |-;obtain⟨o0,o1,o2,o3,aW⟩:=Js eb;have aD:g5<Y.heap.size:=(blt eb)
   have x1:=zM ad x1;have aj:g5∉S:=fun hm=>by have h:=hH.out.lt g5 hm;have h2:=au.out;omega
   go_upto_region 10 with(fail);go_region;have am:(Y.setCell ⟨g5,1,C⟩ (J Z (last+a0+a1))).drew.heap[g5]?=D (F #[J Z (last+a0),J Z (last+a0+a1),H fb,J Z a3] 205 (0,0)):=jd eb rfl;have a6:fx [g5] Y (Y.setCell ⟨g5,1,C⟩ (J Z (last+a0+a1))).drew:=((fx.refl _ _).setCell (p:=⟨g5,1,C⟩) II _).trans ((fu.drew (fu.refl _)).only _);generalize (Y.setCell _ _).drew=Y2 at am a6 |-;obtain⟨p0,p1,p2,p3,pf⟩:=Js am;have aw:=(hH.out.fy ad).fJ a6 (fun b hb hm=>by simp only[Rc] at hm;subst hm;exact aj hb);have an:fu (fy w os1 d1) Y2:=a6.fy (hG.out.trans ad) (by simp only[Rc];rintro b rfl;rw[kH];exact aq);have ay:fE (last+a0):=⟨K9,K9⟩
   have az:fE (last+a0+a1):=⟨K9,K9⟩
   go_wp2_with(refine zD (L:=a5.length+1) rfl (.tmp 68) (.tmp 70) C5 Ce (aw.fy gF) (W1:=w) (B:=0) (ec:=[J Z (last+a0),J Z (last+a0+a1),H fb,J Z a3]) (y:=⟨last+a0,last+a0+a1,fb,a3⟩) (Cf (x:=⟨last+a0,last+a0+a1,fb,a3⟩) ay az b3) rfl rfl rfl (by intro j u hu;simpa[go_sem] using hu) rfl K9 K9 ?_;intro A8 c8 W8 S8 aG ax aA);go_roundw;exact⟨k+4,last+a0+a1,a5++[⟨last+a0,last+a0+a1,fb,a3⟩],A8,c8,S8,II,rfl,Ar,av.out,K9,K9,by simp;omega,fh (by have:=HK.out;simp;omega),fh (by rw[<-HT.out,HN.out];simp),fh (aG.fy (an.trans gF) (by rw[kH];exact hS.out)),fh (by simpa using ax),fh (fun b hb=>(aA b hb).elim (hS.out b) (fun h=>by have h2:=an.size;rw[kH] at h2;rw[Rz] at h;omega))⟩;exact gM
  ·obtain rfl:k=l.length:=K9
   have aF:¬ ((l.length:Int)<(l.length:Int)):=K9;have HE:a5=m9 l 0:=by have h:=HT.out;rw[RL] at h;simpa[m9] using h
   have a8:a5.length<=268435455:=K9;by_cases he:pA a5=s
   ·have HR:Hid (oQ s=(a5,M)):=fh (by rw[HY.out,<-HE,Rs he])
    have af:=fh he;have aB:(s.toList != s.toList)=I:=by rw[bne,lC,Rp rfl];rfl
    clear he HE;go_wp2_with(go_at_call 120;(with_reducible refine(zh7 (xs:=a5) (Ty.up _ hH.out.read gF) a8).mono ?_);rw[af.out];rintro e w9 ⟨rfl,a9⟩);go_ret2;rw[HR.out];exact⟨_,_,S,rfl,hH.out.fy (fu.trans gF a9),fun b hb=>by have:=hS.out b hb;omega,((gF:fu w (fy w os1 d1)).trans hG.out).trans (fu.trans gF a9)⟩
   ·have HR:Hid (oQ s=([],I)):=fh (by rw[HY.out,<-HE,Ro he])
    obtain⟨E,hE⟩:∃ E,pA a5=E:=⟨_,rfl⟩
    have af:=fh hE;rw[hE] at he;have aB:(E.toList == s.toList)=I:=by rw[lC,Rk he]
    clear he HE hE;go_wp2_with(go_at_call 120;(with_reducible refine(zh7 (xs:=a5) (Ty.up _ hH.out.read gF) a8).mono ?_);rw[af.out];rintro e w9 ⟨rfl,a9⟩);go_ret2;rw[HR.out];have a7:fu w w9:=((gF:fu w (fy w os1 d1)).trans hG.out).trans (fu.trans gF a9);exact⟨_,0,[w9.heap.size],rfl,Has.Wy kK (Re _ _),fun b hb=>by simp only[Rc] at hb;have:=a7.size;omega,a7.trans gF⟩
def C8 (p:Q iu × Bool)(w:U)(e:Ending)(w':U):Prop:=∃ A c S,e=.returned (.tuple #[G A p.1.length c,H p.2])/\Has (lE.sl 216) w' [G A p.1.length c] p.1 S/\(∀ b∈S,w.heap.size<=b)/\fu w w'
theorem Ma (h:¬ ((iR s 0).2.2=M/\(iR s 0).2.1=s.size/\(iR s 0).1.length % 3=0)):oV s=([],I):=Ro h
theorem KU (hp:iR s 0=(l,z,M))(hz:z=s.size)(h4:l.length % 3=0):oV s=if pH (nB l 0 0)=s then (nB l 0 0,M) else ([],I):=by
 unfold oV;rw[hp];exact Rs ⟨rfl,hz,h4⟩
theorem zs2 (s:N)(w:U)(hs:s.size<=4194304):RD prog 112 #[V s] w (C8 (oV s) w):=by
 obtain⟨l,z,ok,hp⟩:∃ l z ok,iR s 0=(l,z,ok):=⟨_,_,_,rfl⟩
 have HP:=fh hp;have hs2:s.size<=1099511627776:=K9;have h00:fE 0:=⟨K9,K9⟩
 have ac:¬ (ok=M/\z=s.size/\l.length % 3=0)->∀ w',fu w w'->∀ g,w.heap.size<=g->w'.heap[g]?=D (F #[] 216 (0,0))->C8 (oV s) w (.returned (.tuple #[G (D ⟨g,0,C⟩) 0 0,H I])) w':=fun hn w' hg g hgw hh=>by
  rw[Ma (by rw[hp];exact hn)];exact⟨_,0,[g],rfl,Has.Wy lE hh,fun b hb=>by simp only[Rc] at hb;omega,hg⟩
 have ARM:∀(bz b4:Bool),Hid (((z:Int) == (s.size:Int))=bz)->Hid (((l.length:Int) % 3 == 0)=b4)->(ok && bz && b4)=I->RD prog 112 #[V s] w (C8 (oV s) w):=by
  intro bz b4 Hz H4 a3
  have HB:=fh (ac (by
   rintro⟨r1,r2,r3⟩;have e1:bz=M:=by rw[<-Hz.out];simp;omega
   have e2:b4=M:=by rw[<-H4.out];simp;omega
   rw[r1,e1,e2] at a3
   cases a3))
  clear hp ac;cases ok
  ·go_enter func112,ntmps112
   exact WE
  ·cases bz
   ·have hz:((z:Int) != (s.size:Int))=M:=by rw[bne,Hz.out];rfl
    go_enter func112,ntmps112;exact WE
   ·cases b4
    ·have hz:((z:Int) != (s.size:Int))=I:=by rw[bne,Hz.out];rfl
     have h4:((l.length:Int) % 3 != 0)=M:=by rw[bne,H4.out];rfl
     go_enter func112,ntmps112;exact WE
    ·cases a3
 by_cases hgood:ok=M/\z=s.size/\l.length % 3=0
 case neg=>
  exact Xp
 obtain⟨rfl,an,h4⟩:=hgood;clear ARM ac;have HY:=fh (KU hp an h4);have aE:((z:Int) != (s.size:Int))=I:=by simp;omega
 have aF:((l.length:Int) % 3 != 0)=I:=by simp;omega
 have am:=tV (s:=s) (a:=0) hp;have ai:=fh am.2.2.2;have aP:l.length<=4194304:=K9;have H4:=fh h4;clear hp am an h4;go_enter func112,ntmps112;go_wp2_with(go_at_call 110;(with_reducible refine(zdm s 0 _ hs2 h00).mono ?_);rw[HP.out];rintro e w1 ⟨A1,c1,rfl,hF,os1,d1,rfl⟩);go_loopw [7,9] (fun a q wr=>∃(k:Nat) (o n:Int) (bs:Bool) (a4:Q iu) (A5:X RJ) (c5:Nat) (S:Q Nat),a=G A5 a4.length c5/\q=J Z (k:Int)/\k<=l.length/\-(549755813888*(k:Int))<=o/\o<=549755813888*(k:Int)/\-(549755813888*(k:Int))<=n/\n<=549755813888*(k:Int)/\a4.length<=k/\Hid (3*a4.length=k)/\Hid (a4++nB (l.drop k) o n=nB l 0 0)/\Hid (fu (fy w os1 d1) wr)/\Hid (Has (lE.sl 216) wr [G A5 a4.length c5] a4 S)/\Hid (∀ b∈S,w.heap.size+os1.size<=b/\b≠w.heap.size+os1.size+1)/\wr.heap[w.heap.size+os1.size+1]?=D (F #[J Z o,J Z n,H bs] 216 (0,0))) (fun _ q _=>l.length-(RS q).toNat)
 case atStart=>
  exact⟨0,0,0,I,[],_,0,[w.heap.size+os1.size],rfl,rfl,Rl _,K9,K9,K9,K9,Rl _,fh rfl,fh rfl,fh gF,fh (Has.Wy lE (by have:=Re (fy w os1 d1) (F #[] 216);rw[kH] at this;exact zj this gF)),fh (fun b hb=>by simp only[Rc] at hb;omega),by
    have:=Re ((fy w os1 d1).alloc (F #[] 216)) (F #[J Z 0,J Z 0,H I] 216);rw[Rz,kH] at this
    exact this⟩
 case round=>
  obtain⟨k,o,n,bs,a4,A5,c5,S,rfl,rfl,hk,aL,aM,aN,aO,aD,HK,HT,hG,hH,hS,ak⟩:=hrel;have az:w.heap.size+os1.size<=w.heap.size+os1.size+1:=K9;generalize w.heap.size+os1.size+1=g5 at *
  by_cases hlt:k<l.length
  ·have h4:=H4.out
   have hK:=HK.out;have aB:(k:Int)<(l.length:Int):=K9;obtain⟨g,aS,hA,aA,a3⟩:=AW hF.read K9;subst hA;rw[kH] at aA;obtain⟨a0,aa⟩:∃ a,l[k]?=D a:=⟨_,Rn hlt⟩
   obtain⟨a1,ab⟩:∃ a,l[k+1]?=D a:=⟨_,Rn K9⟩
   obtain⟨a2,ag⟩:∃ a,l[k+2]?=D a:=⟨_,Rn K9⟩
   have aG:=ai.out a0 (Rt aa);have aH:=ai.out a1 (Rt ab);obtain⟨fb,ay⟩:∃ fb:Bool,(a2 == 1)=fb:=⟨_,rfl⟩
   have ae:=Lk aa ab ag o n;rw[show decide (a2=1)=fb from ay] at ae;have HN:=fh ae;clear ae;have x0:=zM hG.out (a3 _ _ aa).1;have x1:=zM hG.out (a3 _ _ ab).1;have x2:=zM hG.out (a3 _ _ ag).1;clear a3 aa ab ag;have aQ:Rg Z (o+a0)=o+a0:=iw;have aR:Rg Z (n+a1)=n+a1:=iw;have aI:Rg Z ((k:Int)+1)=(k:Int)+1:=iw;have aJ:Rg Z ((k:Int)+2)=(k:Int)+2:=iw;have aK:Rg Z ((k:Int)+3)=(k:Int)+3:=iw;have i1:(k:Int)+1<(l.length:Int):=K9;have i2:(k:Int)+2<(l.length:Int):=K9;have q1:(0:Int)<=(k:Int)+1:=K9;have q2:(0:Int)<=(k:Int)+2:=K9;have t1:((k:Int)+1).toNat=k+1:=K9;have t2:((k:Int)+2).toNat=k+2:=K9;have ao:=fh (show k+3<=l.length from K9);have a8:g5∉S:=fun hm=>(hS.out g5 hm).2 rfl;obtain⟨o0,o1,o2,aT,aU⟩:=iS ak;clear h4 hK;go_upto_region 9 with(fail);go_region;have ah:=rR ak (J Z (o+a0)) (J Z (n+a1)) (H fb);have af:(((wr.setCell ⟨g5,0,C⟩ (J Z (o+a0))).setCell ⟨g5,1,C⟩ (J Z (n+a1))).setCell ⟨g5,2,C⟩ (H fb)).drew.heap[g5]?=D (F #[J Z (o+a0),J Z (n+a1),H fb] 216 (0,0)):=ah.1;have a5:fx [g5] wr (((wr.setCell ⟨g5,0,C⟩ (J Z (o+a0))).setCell ⟨g5,1,C⟩ (J Z (n+a1))).setCell ⟨g5,2,C⟩ (H fb)).drew:=ah.2.trans ((fu.drew (fu.refl _)).only _);clear ah;generalize (((wr.setCell _ _).setCell _ _).setCell _ _).drew=Y2 at af a5 |-;obtain⟨p0,p1,p2,pf,aC⟩:=iS af;have ap:=hH.out.fJ a5 (fun b hb hm=>by simp only[Rc] at hm;subst hm;exact a8 hb);have aj:fu (fy w os1 d1) Y2:=a5.fy hG.out (by simp only[Rc];rintro b rfl;rw[kH];exact az);have ar:fE (o+a0):=⟨K9,K9⟩
   have au:fE (n+a1):=⟨K9,K9⟩
   go_wp2_with(refine zD (L:=a4.length+1) rfl (.tmp 61) (.tmp 63) Jm Im (ap.fy gF) (W1:=w) (B:=0) (ec:=[J Z (o+a0),J Z (n+a1),H fb]) (y:=⟨o+a0,n+a1,fb⟩) (Hx (x:=⟨o+a0,n+a1,fb⟩) ar au) rfl rfl rfl (by intro j u hu;simpa[go_sem] using hu) rfl K9 K9 ?_;intro A8 c8 W8 S8 al aq av;have aw:=(al.block g5 (Ri aC (fu.size gF)) a8).trans (zj af gF));go_roundw;exact⟨k+3,o+a0,n+a1,fb,a4++[⟨o+a0,n+a1,fb⟩],A8,c8,S8,II,Ar,ao.out,K9,K9,K9,K9,by simp;omega,fh (by have:=HK.out;simp;omega),fh (by rw[<-HT.out,HN.out];simp),fh (al.fy (aj.trans gF) (by rw[kH];exact fun b hb=>(hS.out b hb).1)),fh (by simpa using aq),fh (fun b hb=>(av b hb).elim (hS.out b) (fun h=>by have h2:=aj.size;rw[kH] at h2;rw[Rz] at h;omega)),aw⟩;exact gM
  ·obtain rfl:k=l.length:=K9
   have aB:¬ ((l.length:Int)<(l.length:Int)):=K9;have HE:a4=nB l 0 0:=by have h:=HT.out;rw[RL] at h;simpa[nB] using h
   have a7:a4.length<=268435455:=K9;by_cases he:pH a4=s
   ·have HR:Hid (oV s=(a4,M)):=fh (by rw[HY.out,<-HE,Rs he])
    have ad:=fh he;have ax:(s.toList != s.toList)=I:=by rw[bne,lC,Rp rfl];rfl
    clear he HE;go_wp2_with(go_at_call 121;(with_reducible refine(zjk (xs:=a4) (Ty.up _ hH.out.read gF) a7).mono ?_);rw[ad.out];rintro e w9 ⟨rfl,a9⟩);go_ret2;rw[HR.out];exact⟨_,_,S,rfl,hH.out.fy (fu.trans gF a9),fun b hb=>by have:=(hS.out b hb).1;omega,((gF:fu w (fy w os1 d1)).trans hG.out).trans (fu.trans gF a9)⟩
   ·have HR:Hid (oV s=([],I)):=fh (by rw[HY.out,<-HE,Ro he])
    obtain⟨E,hE⟩:∃ E,pH a4=E:=⟨_,rfl⟩
    have ad:=fh hE;rw[hE] at he;have ax:(E.toList == s.toList)=I:=by rw[lC,Rk he]
    clear he HE hE;go_wp2_with(go_at_call 121;(with_reducible refine(zjk (xs:=a4) (Ty.up _ hH.out.read gF) a7).mono ?_);rw[ad.out];rintro e w9 ⟨rfl,a9⟩);go_ret2;rw[HR.out];have a6:fu w w9:=((gF:fu w (fy w os1 d1)).trans hG.out).trans (fu.trans gF a9);exact⟨_,0,[w9.heap.size],rfl,Has.Wy lE (Re _ _),fun b hb=>by simp only[Rc] at hb;have:=a6.size;omega,a6.trans gF⟩
theorem P4 {c:Int} (ha:fE a)(hb:fE b)(hc:fE c)(hd:fE d)(hB:g+1<=W.heap.size)(c0:Rb W ⟨g,0,C⟩=D (J Z a))(c1:Rb W ⟨g,1,C⟩=D (J Z b))(c2:Rb W ⟨g,2,C⟩=D (J Z c))(c3:Rb W ⟨g,3,C⟩=D (J Z d)):(zr.sl e).R W W.heap.size [G (D ⟨g,0,C⟩) 4 4] [a,b,c,d]:=
 Ty.iH _ (Iq ha hb hc hd c0 c1 c2 c3) (fun _ _=>rfl) hB
theorem PX (ha:fE a)(hb:fE b)(hB:g+1<=W.heap.size)(c0:Rb W ⟨g,0,C⟩=D (J Z a))(c1:Rb W ⟨g,1,C⟩=D (J Z b)):(zr.sl e).R W W.heap.size [G (D ⟨g,0,C⟩) 2 2] [a,b]:=
 Ty.iH _ (PY ha hb c0 c1) (fun _ _=>rfl) hB
theorem Po {c:Int} (hx:(zr.sl 3).R w w.heap.size [G (D ⟨g,0,C⟩) 4 4] [a,b,c,d]):RD prog 119 #[G (D ⟨g,0,C⟩) 4 4] w fun e w'=>e=.returned (V (og [a,b,c,d]))/\fu w w':=zkE (l:=[a,b,c,d]) hx II
theorem Pn (hx:(zr.sl 3).R w w.heap.size [G (D ⟨g,0,C⟩) 2 2] [a,b]):RD prog 119 #[G (D ⟨g,0,C⟩) 2 2] w fun e w'=>e=.returned (V (og [a,b]))/\fu w w':=zkE (l:=[a,b]) hx II
theorem Pw {l:Q UInt8} {k:Nat} {b:UInt8} (h:l[k]?=D b):((l.take (k+1)).map fun b=>(b.toNat:Int)).sum=((l.take k).map fun b=>(b.toNat:Int)).sum+(b.toNat:Int):=by
 rw[R8,h];simp
theorem zxV (s:N)(w:U)(hs:s.size<=1099511627776):RD prog 123 #[V s] w fun e w'=>e=.returned (J Z (uk s))/\fu w w':=by
 go_enter func123,ntmps123;go_wp2_with(fail);go_loopw [3,4] (fun a b wr=>∃(k:Nat) (n:Int),a=J Z n/\b=J Z (k:Int)/\k<=s.size/\0<=n/\n<=255*(k:Int)/\Hid (n=((s.data.toList.take k).map fun b=>(b.toNat:Int)).sum)/\Hid (fu w wr)) (fun _ b _=>s.size-(RS b).toNat)
 case atStart=>exact⟨0,0,rfl,rfl,Rl _,K9,K9,fh rfl,fh gF⟩
 case round=>
  obtain⟨k,n,rfl,rfl,hk,a2,a3,HN,hG⟩:=hrel;by_cases hlt:k<s.size
  ·have a1:(k:Int)<(s.size:Int):=K9
   have a5:Rg Z ((k:Int)+1)=(k:Int)+1:=iw;obtain⟨b,hb⟩:∃ b,s.data.toList[k]?=D b:=⟨_,Rn (by rw[DN];exact hlt)⟩
   have a0:=b.toNat_lt
   have a4:s[k]=b:=by
    have:=yh s k hlt;rw[this] at hb;injection hb
   have HS:=fh (Pw hb);clear hb;have a6:Rg Z (n+(b.toNat:Int))=n+(b.toNat:Int):=iw;go_wp2_with(fail);go_roundw;exact⟨k+1,n+(b.toNat:Int),rfl,Ar,K9,K9,K9,fh (by rw[HN.out,HS.out]),fh (hG.out.trans gF)⟩;exact gM
  ·obtain rfl:k=s.size:=K9
   have HE:=fh (show n=uk s from by
    have h:=HN.out;rw[SR (by rw[DN];omega)] at h
    exact h)
   go_wp2_with(fail);go_ret;exact⟨nV HE.out,hG.out.trans gF⟩
theorem zk3 {xs:Q fQ} (hx:(kE.sl 214).R w w.heap.size [G A xs.length c] xs)(hl:xs.length<=268435455) :
  RD prog 122 #[G A xs.length c] w fun e w'=>e=.returned (V (oZ xs))/\fu w w':=by
 cases hok:wC xs
 ·have HS:=fh (show oZ xs=⟨#[]⟩ from by unfold oZ;rw[Ro (by rw[hok];simp)];rfl)
  have HO:=fh hok;clear hok;go_enter func122,ntmps122;go_wp2_with(go_at_call 116;(with_reducible refine(zcY (Ty.up _ hx gG)).mono ?_);rw[HO.out];rintro e w1 ⟨rfl,ae,d1,rfl⟩);go_ret;exact⟨mP HS.out.symm,gG⟩
 ·have HS:=fh (show oZ xs=rK xs (jy xs.length) from by unfold oZ;rw[Rs hok])
  have a9:=fh (Dq xs 0 hok);have HO:=fh hok;clear hok;have ac:=pE (xs.length:Int);obtain⟨E0,a3⟩:∃ E0,jy (xs.length:Int)=E0:=⟨_,rfl⟩
  have a7:=fh a3;rw[a3] at ac;clear a3;go_enter func122,ntmps122
  go_wp2_with(first
   | (go_at_call 116;(with_reducible refine(zcY (Ty.up _ hx gG)).mono ?_);rw[HO.out];rintro e w1 ⟨rfl,ae,d1,rfl⟩)
   | (go_at_call 117;(with_reducible refine(zfH _ _).mono ?_);rw[a7.out];rintro e w2 ⟨rfl,au,d2,rfl⟩))
  go_loopw [3,4] (fun a z wr=>∃(k:Nat) (a0:N),a=V a0/\z=J Z (k:Int)/\k<=xs.length/\a0.size<=6+44*k/\Hid (rK (xs.drop k) a0=rK xs E0)/\Hid (fu w wr)) (fun _ z _=>xs.length-(RS z).toNat)
  case atStart=>exact⟨0,E0,rfl,rfl,Rl _,K9,fh rfl,fh gF⟩
  case round=>
   obtain⟨k,a0,rfl,rfl,hk,al,HT,hG⟩:=hrel;by_cases hlt:k<xs.length
   ·have ad:(k:Int)<(xs.length:Int):=K9
    obtain⟨g,ap,x,hA,aj,a6,x0,x1,x2,x3,x4,b0,b1,b2,b3,b4⟩:=Be hx hlt;subst hA;have ak:=CY (a9.out x (Rt a6));have am:Rg Z ((k:Int)+1)=(k:Int)+1:=iw;have HN:=fh (Oy a6 a0);clear a6;have x0:=zM hG.out x0;have x1:=zM hG.out x1;have x2:=zM hG.out x2;have x3:=zM hG.out x3;have x4:=zM hG.out x4;obtain⟨PI,a1⟩:∃ PI,og [x.kw,x.PP,x.Do,x.fG]=PI:=⟨_,rfl⟩
    obtain⟨PT,a2⟩:∃ PT,qx x.pu=PT:=⟨_,rfl⟩
    have an:PI.size<=30:=by have:=yy [x.kw,x.PP,x.Do,x.fG];rw[a1] at this;simpa using this
    have ao:PT.size<=14:=by have:=tm x.pu;rw[a2] at this;omega
    have HB:Hid (xG x=PI++PT):=fh (by rw[<-a1,<-a2];rfl);have aa:=fh a1;have ab:=fh a2;clear a1 a2;have ag:¬ (9223372036854775807<a0.size+PI.size):=K9;have ah:¬ (9223372036854775807<(a0++PI).size+PT.size):=by rw[mA];omega
    have ai:¬ (9223372036854775807<a0.size+PI.size+PT.size):=K9;have a5:x.pu.size<=1099511627775:=K9;go_upto_region 8 with(fail);have eb:(wr.alloc (F #[J Z x.kw,J Z x.PP,J Z x.Do,J Z x.fG,V x.pu] 214)).heap[wr.heap.size]?=D (F #[J Z x.kw,J Z x.PP,J Z x.Do,J Z x.fG,V x.pu] 214 (0,0)):=Re _ _;have a8:fu wr (wr.alloc (F #[J Z x.kw,J Z x.PP,J Z x.Do,J Z x.fG,V x.pu] 214)):=gG;obtain⟨g5,a4⟩:∃ g,wr.heap.size=g:=⟨_,rfl⟩
    rw[a4] at eb |-;have af:=fh a4;clear a4;generalize (wr.alloc _)=Y at eb a8 |-;obtain⟨o0,o1,o2,o3,o4,aq,ar⟩:=jg eb
    go_region_held3 (fun w'=>Rb w' ⟨g5,0,C⟩=D (J Z x.kw)/\Rb w' ⟨g5,1,C⟩=D (J Z x.PP)/\Rb w' ⟨g5,2,C⟩=D (J Z x.Do)/\Rb w' ⟨g5,3,C⟩=D (J Z x.fG)/\Rb w' ⟨g5,4,C⟩=D (V x.pu)) ((repeat' apply Rf) <;> ((repeat (first | with_reducible assumption | with_reducible refine zd ?_ _ _ | with_reducible refine zo ?_ _ | with_reducible refine zc ?_ | with_reducible refine mC ?_ _));done)) (first
     | (go_at_call 119;(with_reducible refine(Po (P4 b0 b1 b2 b3 II (by simp[go_sem]) (by simp[go_sem]) (by simp[go_sem]) (by simp[go_sem]))).mono ?_);rw[aa.out];rintro e w3 ⟨rfl,av,d3,rfl⟩)
     | (go_at_call 118;(with_reducible refine(ziZ x.pu _ a5).mono ?_);rw[ab.out];rintro e w4 ⟨rfl,aw,d4,rfl⟩))
    all_goals go_wp2_with(fail)
    all_goals go_roundw
    all_goals try (case measure=>simp[RS];omega)
    all_goals exact⟨k+1,a0++PI++PT,rfl,Ar,K9,by rw[mA,mA];omega,fh (by rw[<-HT.out,HN.out,HB.out,SW]),fh ((hG.out.trans a8).trans gF)⟩
   ·obtain rfl:k=xs.length:=K9
    have ad:¬ ((xs.length:Int)<(xs.length:Int)):=K9;have HE:Hid (oZ xs=a0):=fh (by have h:=HT.out;rw[RL] at h;rw[HS.out,a7.out,<-h];rfl);go_wp2_with(fail);go_ret;exact⟨mP HE.out.symm,hG.out.trans gF⟩
def DB (p:Q fQ × Bool)(w:U)(e:Ending)(w':U):Prop:=∃ A c S,e=.returned (.tuple #[G A p.1.length c,H p.2])/\Has (kE.sl 214) w' [G A p.1.length c] p.1 S/\(∀ b∈S,w.heap.size<=b)/\fu w w'
theorem F6 {α:Type} {T:Ty α} {off:Nat} {xs:Q α} {S:Q Nat} (h:Has (T.sl e) W [G (D ⟨g,off,C⟩) n c] xs S):g∈S:=by
 obtain⟨⟨A',c',a0,S',hv,_,_,rfl⟩,_⟩:=h;injection hv with hv _
 injection hv with hA _ _
 subst hA;simp[kj]
theorem Oh (h:iD s 0=(n,z,I)):nh s=([],I):=by
 unfold nh;rw[h];rfl
theorem KR (h:iD s 0=(n,z,M))(h2:lT s n z []=C):nh s=([],I):=by
 unfold nh;rw[h];simp only[TI];rw[h2]
theorem KS {b:Nat} {l:Q fQ} (h:iD s 0=(n,z,M))(h2:lT s n z []=D (l,b)):nh s=if oZ l=s then (l,M) else ([],I):=by
 unfold nh;rw[h];simp only[TI];rw[h2]
theorem sh {g:Prop} (f:g:=by
  go_wp2_with(first
   | (go_at_call 110;(with_reducible refine(zdm s (pos:Int) _ hs2 hpI).mono ?_);rw[HP1.out];rintro e w2 ⟨A2,c2,rfl,hF2,hG2⟩)
   | (go_at_call 109;(with_reducible refine(zfP s ((pos:Int)+(m:Int)) _ hs2 hpmI).mono ?_);rw[HP2.out];rintro e w3 ⟨rfl,hG3⟩))
  go_ret2
  exact HB.out _ (((hG.out.trans (fu.trans gF hG2)).trans (fu.trans gF hG3)).trans gF) _ (by have:=hG.out.size;have:=(fu.trans (gF:fu wr _) hG2).size;have:=hG3.size;simp at *;omega) (Re _ _)):g:=f
theorem zuG (s:N)(w:U)(hs:s.size<=4194304):RD prog 113 #[V s] w (DB (nh s) w):=by
 have hs2:s.size<=1099511627776:=K9;have ap:fE 0:=⟨K9,K9⟩
 have NO:nh s=([],I)->∀ w',fu w w'->∀ g,w.heap.size<=g->w'.heap[g]?=D (F #[] 214 (0,0))->DB (nh s) w (.returned (.tuple #[G (D ⟨g,0,C⟩) 0 0,H I])) w':=fun hn w' hg g hgw hh=>by
  rw[hn];exact⟨_,0,[g],rfl,Has.Wy kE hh,fun b hb=>by simp only[Rc] at hb;omega,hg⟩
 obtain⟨n,z,ok,hp⟩:∃ n z ok,iD s 0=(n,z,ok):=⟨_,_,_,rfl⟩
 have HP:=fh hp;cases ok
 ·obtain⟨rfl,rfl⟩:=tP hp
  have HB:=fh (NO (Oh hp));clear hp NO;go_enter func113,ntmps113;go_wp2_with(go_at_call 108;(with_reducible refine(zdz s 0 _ hs2 ap).mono ?_);rw[HP.out];rintro e w1 ⟨rfl,an,d1,rfl⟩);go_loopw [8] (fun a wr=>a=J Z 0/\Hid (fu (fy (w.alloc (F #[] 214)) an d1) wr)) (fun _ _=>0)
  case atStart=>exact⟨rfl,fh gF⟩
  case round=>
   obtain⟨rfl,hG⟩:=hrel;go_wp2_with(fail);go_ret2;exact HB.out _ (((gF:fu w (fy (w.alloc (F #[] 214)) an d1)).trans hG.out).trans gF) _ (by have:=hG.out.size;simp at this;omega) (by first | exact Re _ _ | exact zs _ _)
 ·have aq:=qJ hp
  have aF:z<=s.size:=K9;have aJ:n<=1099511627775:=aq.2.2.2.2;have ao:Hid (lT s n z []=C->∀ w',fu w w'->∀ g,w.heap.size<=g->w'.heap[g]?=D (F #[] 214 (0,0))->DB (nh s) w (.returned (.tuple #[G (D ⟨g,0,C⟩) 0 0,H I])) w'):=fh (fun h=>NO (KR hp h));have ad:=fh (fun(l:Q fQ) (b:Nat) (h:lT s n z []=D (l,b))=>KS hp h);clear hp NO aq;go_enter func113,ntmps113;go_wp2_with(go_at_call 108;(with_reducible refine(zdz s 0 _ hs2 ap).mono ?_);rw[HP.out];rintro e w1 ⟨rfl,an,d1,rfl⟩);go_loopw [4,6,8] (fun a p q wr=>∃(k pos:Nat) (a4:Q fQ) (A5:X RJ) (c5:Nat) (S:Q Nat),a=G A5 a4.length c5/\p=J Z (pos:Int)/\q=J Z (k:Int)/\k<=n/\pos<=s.size/\a4.length<=pos/\Hid (lT s (n-k) pos a4=lT s n z [])/\Hid (fu w wr)/\Hid (Has (kE.sl 214) wr [G A5 a4.length c5] a4 S)/\Hid (∀ b∈S,w.heap.size<=b)) (fun _ _ q _=>n-(RS q).toNat)
  case atStart=>exact⟨0,z,[],_,0,[w.heap.size],rfl,rfl,rfl,Rl _,aF,Rl _,fh rfl,fh gF,fh (Has.Wy kE (zj (Re w (F #[] 214)) gF)),fh (fun b hb=>by simp only[Rc] at hb;omega)⟩
  case round=>
   obtain⟨k,pos,a4,A5,c5,S,rfl,rfl,rfl,hk,aB,aG,HT,hG,hH,hS⟩:=hrel;by_cases hlt:k<n
   ·have aA:(k:Int)<(n:Int):=K9
    obtain⟨r,hr⟩:∃ r,n-k=r+1:=⟨n-k-1,K9⟩
    have hT:=HT.out;rw[hr] at hT;obtain⟨l,m,af,a8⟩:∃ l m af,iR s (pos:Int)=(l,m,af):=⟨_,_,_,rfl⟩
    have HP1:=fh a8
    have aI:pos+m<=s.size:=by
     cases af
     ·have:=(Bm a8).2;omega
     ·exact(tV a8).2.1
    have hpI:fE (pos:Int):=⟨K9,K9⟩
    have aK:Rg Z ((pos:Int)+(m:Int))=(pos:Int)+(m:Int):=iw;have hpmI:fE ((pos:Int)+(m:Int)):=⟨K9,K9⟩
    obtain⟨t,q,ac,ab⟩:∃ t q ac,jH s (pos+m:Nat)=(t,q,ac):=⟨_,_,_,rfl⟩
    have HP2:Hid (jH s ((pos:Int)+(m:Int))=(t,q,ac)):=fh (by rw[<-ab];congr 1)
    have aC:pos+m+q<=s.size/\t.size<=s.size:=by
     cases ac
     ·obtain⟨e1,e2⟩:=Iy ab;subst e1;exact⟨K9,Rl _⟩
     ·have:=tW ab;omega
    have aN:Rg Z ((k:Int)+1)=(k:Int)+1:=iw;have aL:Rg Z ((pos:Int)+(m:Int)+(q:Int))=(pos:Int)+(m:Int)+(q:Int):=iw;by_cases hgood:af=M/\ac=M/\l.length=4
    case neg=>
     have aa:lT s (r+1) pos a4=C:=by
      cases af
      ·exact GI a8
      ·cases ac
       ·exact GJ a8 ab
       ·exact GK a8 (fun h=>hgood ⟨rfl,rfl,h⟩)
     have HB:=fh (ao.out (by rw[<-hT];exact aa))
     have ai:af=M->ac=M->((l.length:Int) != 4)=M:=fun h1 h2=>by
      simp only[bne_iff_ne];intro h;exact hgood ⟨h1,h2,K9⟩
     clear aa hT a8 ab hgood ad ao hr;cases af
     ·clear ai
      exact sh
     ·cases ac
      ·clear ai
       exact sh
      ·have aH:=ai rfl rfl
       clear ai;exact sh
    obtain⟨rfl,rfl,h4⟩:=hgood;obtain⟨a0,a1,a2,a3,rfl⟩:=four h4;have ar:Hid (lT s (n-(k+1)) (pos+m+q) (a4++[⟨a0,a1,a2,a3,t⟩])=lT s n z []):=fh (by rw[show n-(k+1)=r from K9,<-hT,Hh a8 ab]);have aM:=(tW ab).1;have ai:((([a0,a1,a2,a3]:Q Int).length:Int) != 4)=I:=rfl;clear a8 ab hr hT
    go_wp2_with(first
     | (go_at_call 110;(with_reducible refine(zdm s (pos:Int) _ hs2 hpI).mono ?_);rw[HP1.out];rintro e w2 ⟨A2,c2,rfl,hF2,hG2⟩)
     | (go_at_call 109;(with_reducible refine(zfP s ((pos:Int)+(m:Int)) _ hs2 hpmI).mono ?_);rw[HP2.out];rintro e w3 ⟨rfl,hG3⟩))
    have ae:fu wr w3:=(fu.trans gF hG2).trans (fu.trans gF hG3);obtain⟨g2,a9,au,am,a5⟩:=AW hF2.read II;subst au;have x0:=zM hG3 (a5 0 a0 rfl).1;have x1:=zM hG3 (a5 1 a1 rfl).1;have x2:=zM hG3 (a5 2 a2 rfl).1;have x3:=zM hG3 (a5 3 a3 rfl).1;rw[Sr] at x0;have b0:=(a5 0 a0 rfl).2;have b1:=(a5 1 a1 rfl).2;have b2:=(a5 2 a2 rfl).2;have b3:=(a5 3 a3 rfl).2;have aD:t.size<=9223372036854775807:=K9;have az:g2<w3.heap.size:=Ri am hG3.size;have av:=hH.out.fy ae;have aE:∀ b∈S,b<wr.heap.size:=hH.out.lt
    have a7:g2∉S:=fun hm=>by
     obtain⟨S2,s1,s2⟩:=hF2.has;have h5:=s2 g2 (F6 s1);have h6:=aE g2 hm;have h7:wr.heap.size<=g2:=RG (fu.size gF) h5;omega
    clear a5;go_region_held3 (fun w'=>Rb w' ⟨g2,a9,C⟩=D (J Z a0)/\Rb w' ⟨g2,a9+1,C⟩=D (J Z a1)/\Rb w' ⟨g2,a9+2,C⟩=D (J Z a2)/\Rb w' ⟨g2,a9+3,C⟩=D (J Z a3)) ((repeat' apply Rf) <;> ((repeat (first | with_reducible assumption | with_reducible refine zd ?_ _ _ | with_reducible refine zo ?_ _ | with_reducible refine zc ?_ | with_reducible refine mC ?_ _));done)) (first | (refine pY (L:=a4.length+1) rfl (.tmp 58) (.tmp 73) EA DW (av.fy gF) (W1:=w) (B:=0) (ec:=[J Z a0,J Z a1,J Z a2,J Z a3,V t]) (y:=⟨a0,a1,a2,a3,t⟩) (Fv (x:=⟨a0,a1,a2,a3,t⟩) b0 b1 b2 b3 aD) rfl rfl rfl (by intro j u hu;simpa[go_sem] using hu) rfl K9 K9 ?_;intro A8 c8 W8 S8 aj aw ax;have x0:=zC x0 gF aj a7;have x1:=zC x1 gF aj a7;have x2:=zC x2 gF aj a7;have x3:=zC x3 gF aj a7))
    all_goals go_wp2_with(fail)
    all_goals go_roundw
    exact⟨k+1,pos+m+q,a4++[⟨a0,a1,a2,a3,t⟩],A8,c8,S8,II,Ar,Ar,K9,aC.1,by simp;omega,ar,fh (aj.fy ((hG.out.trans ae).trans gF) hS.out),fh (by simpa using aw),fh (fun b hb=>(ax b hb).elim (hS.out b) (fun h=>RG ((hG.out.trans ae).trans gF).size h))⟩;exact gM
   ·obtain rfl:k=n:=K9
    have aA:¬ ((k:Int)<(k:Int)):=K9;have a6:lT s k z []=D (a4,pos):=by rw[<-HT.out,St];rfl
    have ah:a4.length<=268435455:=K9;by_cases he:oZ a4=s
    ·have HR:Hid (nh s=(a4,M)):=fh (by rw[ad.out a4 pos a6,Rs he])
     have al:=fh he;have ay:(s.toList != s.toList)=I:=by rw[bne,lC,Rp rfl];rfl
     clear he a6;go_wp2_with(go_at_call 122;(with_reducible refine(zk3 (xs:=a4) (Ty.up _ hH.out.read gF) ah).mono ?_);rw[al.out];rintro e w9 ⟨rfl,ak⟩);go_ret2;rw[HR.out];exact⟨_,_,S,rfl,hH.out.fy (fu.trans gF ak),hS.out,hG.out.trans (fu.trans gF ak)⟩
    ·have HR:Hid (nh s=([],I)):=fh (by rw[ad.out a4 pos a6,Ro he])
     obtain⟨E,hE⟩:∃ E,oZ a4=E:=⟨_,rfl⟩
     have al:=fh hE;rw[hE] at he;have ay:(E.toList == s.toList)=I:=by rw[lC,Rk he]
     clear he hE a6;go_wp2_with(go_at_call 122;(with_reducible refine(zk3 (xs:=a4) (Ty.up _ hH.out.read gF) ah).mono ?_);rw[al.out];rintro e w9 ⟨rfl,ak⟩);go_ret2;rw[HR.out];have ag:fu w w9:=hG.out.trans (fu.trans gF ak);exact⟨_,0,[w9.heap.size],rfl,Has.Wy kE (Re _ _),fun b hb=>by simp only[Rc] at hb;have:=ag.size;omega,ag.trans gF⟩
theorem BJ {o0 o1 o2 o3 o4:Value} (h:W.heap[g]?=D (F #[o0,o1,o2,o3,o4] e (0,0))) :
  Rb W ⟨g,0,C⟩=D o0/\Rb W ⟨g,1,C⟩=D o1/\Rb W ⟨g,2,C⟩=D o2/\Rb W ⟨g,3,C⟩=D o3/\Rb W ⟨g,4,C⟩=D o4/\(∀ j,Rx W ⟨g,j,C⟩=I)/\g<W.heap.size:=jg h
structure qX (d:gE):Prop where
 WB:lU d.fm<=1073741824
 WP:d.fW.length<=67108863
 rows:d.AC.length<=67108863
 inl:d.fI.length<=67108863
theorem Gq {d:gE} (h:¬ (fP d.Id 0 1099511627775=M/\qP 0 d.fW=M/\qS (-1) d.AC=M/\wC d.fI=M/\d.fm.all sP=M)):mQ d=⟨#[]⟩:=by
 unfold mQ;rw[Ro h];rfl
theorem zoW {d:gE} {A0 A1 A2 A3:X RJ} {c0 c1 c2 c3:Nat} (h0:(jm.sl 137).R w w.heap.size [G A0 d.fm.length c0] d.fm)(h1:(kK.sl 205).R w w.heap.size [G A1 d.fW.length c1] d.fW)
  (h2:(lE.sl 216).R w w.heap.size [G A2 d.AC.length c2] d.AC) (h3:(kE.sl 214).R w w.heap.size [G A3 d.fI.length c3] d.fI) (hi:fE d.Id) (hb:qX d) :
  RD prog 74 #[.agg #[J Z d.Id,G A0 d.fm.length c0,G A1 d.fW.length c1,G A2 d.AC.length c2,G A3 d.fI.length c3]] w fun e w'=>e=.returned (V (mQ d))/\fu w w':=by
 obtain⟨bB,bC,bD,bE⟩:=hb;have bL:=Nh d.fm;have a9:=Re w (F #[J Z d.Id,G A0 d.fm.length c0,G A1 d.fW.length c1,G A2 d.AC.length c2,G A3 d.fI.length c3] 108);have a0:fu w (w.alloc (F #[J Z d.Id,G A0 d.fm.length c0,G A1 d.fW.length c1,G A2 d.AC.length c2,G A3 d.fI.length c3] 108)):=gG;obtain⟨gb,ae⟩:∃ g,w.heap.size=g:=⟨_,rfl⟩
 obtain⟨bi,ak⟩:∃ b,fP d.Id 0 1099511627775=b:=⟨_,rfl⟩
 obtain⟨b1,a2⟩:∃ b,qP 0 d.fW=b:=⟨_,rfl⟩
 obtain⟨b2,a3⟩:∃ b,qS (-1) d.AC=b:=⟨_,rfl⟩
 obtain⟨b3,a4⟩:∃ b,wC d.fI=b:=⟨_,rfl⟩
 have ai:=fh ak;have af:=fh a2;have ag:=fh a3;have ah:=fh a4;by_cases hall:bi=M/\b1=M/\b2=M/\b3=M
 case neg=>
  have HS:=fh (show mQ d=⟨#[]⟩ from Gq (by rintro⟨e1,e2,e3,e4,_⟩;exact hall ⟨by rw[<-ak,e1],by rw[<-a2,e2],by rw[<-a3,e3],by rw[<-a4,e4]⟩));clear ak a2 a3 a4;go_enter func74,ntmps74;go_upto_region 1 with(fail);rw[ae] at a9;have aT:=fh ae;clear ae;generalize (w.alloc _)=Y at a9 a0 |-;obtain⟨o0,o1,o2,o3,o4,aM,aN⟩:=BJ a9;clear o1;cases bi
  ·go_wp2_with(first
    | (go_at_call 43;(with_reducible refine(gW _ _ _ _).mono ?_);rw[ai.out];rintro e v1 ⟨rfl,rfl⟩)
    | (go_at_call 114;(with_reducible refine(zer (Ty.up _ h1 (a0.trans gF))).mono ?_);rw[af.out];rintro e v2 ⟨rfl,ab,d2,rfl⟩)
    | (go_at_call 115;(with_reducible refine(zfh (Ty.up _ h2 (a0.trans gF))).mono ?_);rw[ag.out];rintro e v3 ⟨rfl,ac,d3,rfl⟩)
    | (go_at_call 116;(with_reducible refine(zcY (Ty.up _ h3 (a0.trans gF))).mono ?_);rw[ah.out];rintro e v4 ⟨rfl,ad,d4,rfl⟩))
   go_ret
   exact⟨mP HS.out.symm,a0.trans gF⟩
  ·cases b1
   ·go_wp2_with(first
     | (go_at_call 43;(with_reducible refine(gW _ _ _ _).mono ?_);rw[ai.out];rintro e v1 ⟨rfl,rfl⟩)
     | (go_at_call 114;(with_reducible refine(zer (Ty.up _ h1 (a0.trans gF))).mono ?_);rw[af.out];rintro e v2 ⟨rfl,ab,d2,rfl⟩)
     | (go_at_call 115;(with_reducible refine(zfh (Ty.up _ h2 (a0.trans gF))).mono ?_);rw[ag.out];rintro e v3 ⟨rfl,ac,d3,rfl⟩)
     | (go_at_call 116;(with_reducible refine(zcY (Ty.up _ h3 (a0.trans gF))).mono ?_);rw[ah.out];rintro e v4 ⟨rfl,ad,d4,rfl⟩))
    go_ret
    exact⟨mP HS.out.symm,a0.trans gF⟩
   ·cases b2
    ·go_wp2_with(first
      | (go_at_call 43;(with_reducible refine(gW _ _ _ _).mono ?_);rw[ai.out];rintro e v1 ⟨rfl,rfl⟩)
      | (go_at_call 114;(with_reducible refine(zer (Ty.up _ h1 (a0.trans gF))).mono ?_);rw[af.out];rintro e v2 ⟨rfl,ab,d2,rfl⟩)
      | (go_at_call 115;(with_reducible refine(zfh (Ty.up _ h2 (a0.trans gF))).mono ?_);rw[ag.out];rintro e v3 ⟨rfl,ac,d3,rfl⟩)
      | (go_at_call 116;(with_reducible refine(zcY (Ty.up _ h3 (a0.trans gF))).mono ?_);rw[ah.out];rintro e v4 ⟨rfl,ad,d4,rfl⟩))
     go_ret
     exact⟨mP HS.out.symm,a0.trans gF⟩
    ·cases b3
     ·go_wp2_with(first
       | (go_at_call 43;(with_reducible refine(gW _ _ _ _).mono ?_);rw[ai.out];rintro e v1 ⟨rfl,rfl⟩)
       | (go_at_call 114;(with_reducible refine(zer (Ty.up _ h1 (a0.trans gF))).mono ?_);rw[af.out];rintro e v2 ⟨rfl,ab,d2,rfl⟩)
       | (go_at_call 115;(with_reducible refine(zfh (Ty.up _ h2 (a0.trans gF))).mono ?_);rw[ag.out];rintro e v3 ⟨rfl,ac,d3,rfl⟩)
       | (go_at_call 116;(with_reducible refine(zcY (Ty.up _ h3 (a0.trans gF))).mono ?_);rw[ah.out];rintro e v4 ⟨rfl,ad,d4,rfl⟩))
      go_ret
      exact⟨mP HS.out.symm,a0.trans gF⟩
     ·exact absurd ⟨rfl,rfl,rfl,rfl⟩ hall
 obtain⟨rfl,rfl,rfl,rfl⟩:=hall;have aV:=fh (fun(x:fC) (hx:x∈d.fm) (hn:sP x=I)=>(show mQ d=⟨#[]⟩ from Gq (by rintro⟨_,_,_,_,e5⟩;have:=Td.1 e5 x hx;rw[hn] at this;cases this)));have aA:=fh (fun(h:d.fm.all sP=M)=>(show mQ d=tA d++jy (uk (tA d)) from by unfold mQ;rw[Rs ⟨ak,a2,a3,a4,h⟩]));clear ak a2 a3 a4;obtain⟨V0,aH⟩:∃ Q7,jy d.Id=Q7:=⟨_,rfl⟩
 obtain⟨V1,aI⟩:∃ Q7,jy (d.fm.length:Int)=Q7:=⟨_,rfl⟩
 have bP:V0.size<=6:=by have:=pE d.Id;rwa [aH] at this
 have bQ:V1.size<=6:=by have:=pE (d.fm.length:Int);rwa [aI] at this
 have aO:=fh aH;have aP:=fh aI;clear aH aI;have bF:¬ (9223372036854775807<V0.size+V1.size):=K9;go_enter func74,ntmps74;go_upto_region 1 with(fail);rw[ae] at a9;have aT:=fh ae;clear ae;generalize (w.alloc _)=Y at a9 a0 |-;obtain⟨o0,o1,o2,o3,o4,aM,aN⟩:=BJ a9
 go_wp2_with(first
  | (go_at_call 43;(with_reducible refine(gW _ _ _ _).mono ?_);rw[ai.out];rintro e v1 ⟨rfl,rfl⟩)
  | (go_at_call 114;(with_reducible refine(zer (Ty.up _ h1 (a0.trans gF))).mono ?_);rw[af.out];rintro e v2 ⟨rfl,ab,d2,rfl⟩)
  | (go_at_call 115;(with_reducible refine(zfh (Ty.up _ h2 (a0.trans gF))).mono ?_);rw[ag.out];rintro e v3 ⟨rfl,ac,d3,rfl⟩)
  | (go_at_call 116;(with_reducible refine(zcY (Ty.up _ h3 (a0.trans gF))).mono ?_);rw[ah.out];rintro e v4 ⟨rfl,ad,d4,rfl⟩))
 go_upto_region 3 with(fail);have aQ:fu w (fy (fy (fy Y ab d2) ac d3) ad d4):=a0.trans gF;have aB:=zj a9 (show fu Y (fy (fy (fy Y ab d2) ac d3) ad d4) from gF);generalize (fy (fy (fy Y ab d2) ac d3) ad d4)=Y1 at aB aQ |-;clear o0 o1 o2 o3 o4 aM aN;obtain⟨o0,o1,o2,o3,o4,aM,aN⟩:=BJ aB;obtain⟨E0,aD⟩:∃ E,V0++V1=E:=⟨_,rfl⟩
 have bR:E0.size<=12:=by rw[<-aD,mA];omega
 go_region_held3 (fun w'=>Rb w' ⟨gb,0,C⟩=D (J Z d.Id)/\Rb w' ⟨gb,1,C⟩=D (G A0 d.fm.length c0)) ((repeat' apply Rf) <;> ((repeat (first | with_reducible assumption | with_reducible refine zd ?_ _ _ | with_reducible refine zo ?_ _ | with_reducible refine zc ?_ | with_reducible refine mC ?_ _));done)) (first
  | (go_at_call 117;(with_reducible refine(zfH d.Id _).mono ?_);rw[aO.out];rintro e v5 ⟨rfl,bT,d5,rfl⟩)
  | (go_at_call 117;(with_reducible refine(zfH (d.fm.length:Int) _).mono ?_);rw[aP.out];rintro e v6 ⟨rfl,bU,d6,rfl⟩))
 all_goals go_wp2_with(fail)
 all_goals have aS:=fh aD
 all_goals clear aD
 all_goals go_loopw [3,4] (fun a z wr=>∃(k:Nat) (a1:N),a=V a1/\z=J Z (k:Int)/\k<=d.fm.length/\a1.size<=1073741900/\Hid (sO (d.fm.drop k) a1=sO d.fm E0)/\Hid ((d.fm.take k).all sP=M)/\Hid (fu Y1 wr)) (fun _ z _=>d.fm.length-(RS z).toNat)
 all_goals try (case atStart=>exact⟨0,E0,rfl,rfl,Rl _,K9,fh rfl,fh rfl,fh gF⟩)
 case round=>
  obtain⟨k,a1,rfl,rfl,hk,bM,HT,HA,hG⟩:=hrel;have ba:=zj aB hG.out;obtain⟨r0,r1,r2,r3,r4,bX,bY⟩:=BJ ba;have a6:fu w wr:=aQ.trans hG.out;by_cases hlt:k<d.fm.length
  ·have be:(k:Int)<(d.fm.length:Int):=K9
   obtain⟨g,bS,x,hA,bJ,an,x0,x1,x2,b0,b1,b2⟩:=qD h0 hlt;have a7:=Rt an;have bO:Rg Z ((k:Int)+1)=(k:Int)+1:=iw;have x0:=zM a6 x0;have x1:=zM a6 x1;have x2:=zM a6 x2;obtain⟨s1,al⟩:∃ b,fP x.kw 0 1000000=b:=⟨_,rfl⟩
   obtain⟨s2,am⟩:∃ b,fP x.gH 0 1000000=b:=⟨_,rfl⟩
   have ay:=fh al;have az:=fh am;subst hA;go_upto_region 8 with(fail);have aC:=Re wr (F #[V x.pu,J Z x.kw,J Z x.gH] 137);have ax:fu wr (wr.alloc (F #[V x.pu,J Z x.kw,J Z x.gH] 137)):=gG;obtain⟨g5,aJ⟩:∃ g,wr.heap.size=g:=⟨_,rfl⟩
   rw[aJ] at aC |-;have bp:=fh aJ;clear aJ;generalize (wr.alloc _)=QV at aC ax |-;obtain⟨p0,p1,p2,pf,bW⟩:=iS aC;by_cases hok:s1=M/\s2=M
   case neg=>
    have HB:=fh (aV.out x a7 (by
     unfold sP;rw[al,am];cases s1
     ·rfl
     ·cases s2
      ·rfl
      ·exact absurd ⟨rfl,rfl⟩ hok))
    clear al am an a7;cases s1
    ·go_wp2_with(first
      | (go_at_call 43;(with_reducible refine(gW x.kw _ _ _).mono ?_);rw[ay.out];rintro e v7 ⟨rfl,rfl⟩)
      | (go_at_call 43;(with_reducible refine(gW x.gH _ _ _).mono ?_);rw[az.out];rintro e v8 ⟨rfl,rfl⟩))
     go_ret
     exact⟨mP HB.out.symm,(a6.trans ax).trans gF⟩
    ·cases s2
     ·go_wp2_with(first
       | (go_at_call 43;(with_reducible refine(gW x.kw _ _ _).mono ?_);rw[ay.out];rintro e v7 ⟨rfl,rfl⟩)
       | (go_at_call 43;(with_reducible refine(gW x.gH _ _ _).mono ?_);rw[az.out];rintro e v8 ⟨rfl,rfl⟩))
      go_ret
      exact⟨mP HB.out.symm,(a6.trans ax).trans gF⟩
     ·exact absurd ⟨rfl,rfl⟩ hok
   obtain⟨rfl,rfl⟩:=hok;have aU:=fh (show sP x=M from by unfold sP;rw[al,am];rfl);have bK:=Ni a7;have aK:x.pu.size<=1099511627775:=K9;obtain⟨PT,aG⟩:∃ PT,qx x.pu=PT:=⟨_,rfl⟩
   obtain⟨PI,aF⟩:∃ PI,og [x.kw,x.gH]=PI:=⟨_,rfl⟩
   have HN:=fh (Px an a1)
   have b8:=fh (show (d.fm.take (k+1)).all sP=M from by
    rw[R8,an,Um,HA.out]
    simp[aU.out])
   have aL:wO x=PT++PI:=by rw[<-aG,<-aF];rfl
   have aa:(a1++(PT++PI)).size<=1073741900:=by
    have q1:=(Ag (d.fm.drop (k+1)) (a1++wO x)).1;rw[<-HN.out,HT.out,aL] at q1;have q2:=(Ag d.fm E0).2;omega
   have aR:a1.size+(PT.size+PI.size)<=1073741900:=by rw[mA,mA] at aa;exact aa
   have HB:=fh aL;have b4:=fh aG;have aZ:=fh aF;clear aG aF aL aa al am an a7;have bb:¬ (9223372036854775807<a1.size+PT.size):=K9;have bc:¬ (9223372036854775807<(a1++PT).size+PI.size):=by rw[mA];omega
   have bd:¬ (9223372036854775807<a1.size+PT.size+PI.size):=K9
   go_wp2_with(first
    | (go_at_call 43;(with_reducible refine(gW x.kw _ _ _).mono ?_);rw[ay.out];rintro e v7 ⟨rfl,rfl⟩)
    | (go_at_call 43;(with_reducible refine(gW x.gH _ _ _).mono ?_);rw[az.out];rintro e v8 ⟨rfl,rfl⟩))
   go_upto_region 10 with(fail)
   go_region_held3 (fun w'=>Rb w' ⟨g5,0,C⟩=D (V x.pu)/\Rb w' ⟨g5,1,C⟩=D (J Z x.kw)/\Rb w' ⟨g5,2,C⟩=D (J Z x.gH)) ((repeat' apply Rf) <;> ((repeat (first | with_reducible assumption | with_reducible refine zd ?_ _ _ | with_reducible refine zo ?_ _ | with_reducible refine zc ?_ | with_reducible refine mC ?_ _));done)) (first
    | (go_at_call 119;(with_reducible refine(Pn (PX b1 b2 II (by simp[go_sem]) (by simp[go_sem]))).mono ?_);rw[aZ.out];rintro e v9 ⟨rfl,bV,d9,rfl⟩)
    | (go_at_call 118;(with_reducible refine(ziZ x.pu _ aK).mono ?_);rw[b4.out];rintro e bZ ⟨rfl,bf,bq,rfl⟩))
   all_goals go_wp2_with(fail)
   all_goals go_roundw
   all_goals try (case measure=>simp[RS];omega)
   all_goals exact⟨k+1,a1++PT++PI,rfl,Ar,K9,by rw[mA,mA];omega,fh (by rw[<-HT.out,HN.out,HB.out,SW]),b8,fh ((hG.out.trans ax).trans gF)⟩
  ·obtain rfl:k=d.fm.length:=K9
   have be:¬ ((d.fm.length:Int)<(d.fm.length:Int)):=K9;have aj:a1=sO d.fm E0:=by have h:=HT.out;rw[RL] at h;exact h
   have a8:d.fm.all sP=M:=by have h:=HA.out;rw[SC] at h;exact h
   obtain⟨T1,ar⟩:∃ T,pA d.fW=T:=⟨_,rfl⟩
   obtain⟨T2,au⟩:∃ T,pH d.AC=T:=⟨_,rfl⟩
   obtain⟨T3,av⟩:∃ T,oZ d.fI=T:=⟨_,rfl⟩
   have z1:=DZ d.fW;have z2:=Em d.AC;have z3:=ET d.fI;rw[ar] at z1;rw[au] at z2;rw[av] at z3;obtain⟨P1,ao⟩:∃ T,qx T1=T:=⟨_,rfl⟩
   obtain⟨P2,ap⟩:∃ T,qx T2=T:=⟨_,rfl⟩
   obtain⟨P3,aq⟩:∃ T,qx T3=T:=⟨_,rfl⟩
   have y1:=tm T1;have y2:=tm T2;have y3:=tm T3;rw[ao] at y1;rw[ap] at y2;rw[aq] at y3;have t1:T1.size<=1099511627775:=K9;have t2:T2.size<=1099511627775:=K9;have t3:T3.size<=1099511627775:=K9
   have a5:tA d=a1++P1++P2++P3:=by
    unfold tA;rw[ar,au,av,ao,ap,aq,aO.out,aP.out,aS.out,<-aj];simp only[SW]
   obtain⟨QY,hF⟩:∃ QY,a1++P1++P2++P3=QY:=⟨_,rfl⟩
   rw[hF] at a5;have bA:QY.size<=12884901888:=by rw[<-hF];simp only[mA];omega
   obtain⟨VS,aw⟩:∃ Q7,jy (uk QY)=Q7:=⟨_,rfl⟩
   have bN:VS.size<=6:=by have:=pE (uk QY);rwa [aw] at this
   have HR:Hid (mQ d=QY++VS):=fh (by rw[aA.out a8,a5,aw]);have b5:=fh ar;have b6:=fh au;have b7:=fh av;have aW:=fh ao;have aX:=fh ap;have aY:=fh aq;have b9:=fh aw;have bb:¬ (9223372036854775807<a1.size+P1.size):=K9;have bc:¬ (9223372036854775807<(a1++P1).size+P2.size):=by rw[mA];omega
   have bd:¬ (9223372036854775807<(a1++P1++P2).size+P3.size):=by rw[mA,mA];omega
   have bG:¬ (9223372036854775807<a1.size+P1.size+P2.size):=K9;have bH:¬ (9223372036854775807<a1.size+P1.size+P2.size+P3.size):=K9;have bI:¬ (9223372036854775807<QY.size+VS.size):=K9;have aE:QY.size<=1099511627776:=K9;have l1:d.fW.length<=268435455:=K9;have l2:d.AC.length<=268435455:=K9;have l3:d.fI.length<=268435455:=K9;clear ar au av ao ap aq aw a5 aj a8;go_upto_region 11 with(fail)
   go_region_held3 (fun w'=>Rb w' ⟨gb,2,C⟩=D (G A1 d.fW.length c1)/\Rb w' ⟨gb,3,C⟩=D (G A2 d.AC.length c2)/\Rb w' ⟨gb,4,C⟩=D (G A3 d.fI.length c3)) ((repeat' apply Rf) <;> ((repeat (first | with_reducible assumption | with_reducible refine zd ?_ _ _ | with_reducible refine zo ?_ _ | with_reducible refine zc ?_ | with_reducible refine mC ?_ _));done)) (first
    | (go_at_call 120;(with_reducible refine(zh7 (xs:=d.fW) (Ty.up _ h1 (a6.trans gF)) l1).mono ?_);rw[b5.out];rintro e c4 ⟨rfl,bg,br,rfl⟩)
    | (go_at_call 121;(with_reducible refine(zjk (xs:=d.AC) (Ty.up _ h2 (a6.trans gF)) l2).mono ?_);rw[b6.out];rintro e c5 ⟨rfl,bh,bs,rfl⟩)
    | (go_at_call 122;(with_reducible refine(zk3 (xs:=d.fI) (Ty.up _ h3 (a6.trans gF)) l3).mono ?_);rw[b7.out];rintro e c6 ⟨rfl,bj,bt,rfl⟩)
    | (go_at_call 118;(with_reducible refine(ziZ T1 _ t1).mono ?_);rw[aW.out];rintro e c7 ⟨rfl,bk,bu,rfl⟩)
    | (go_at_call 118;(with_reducible refine(ziZ T2 _ t2).mono ?_);rw[aX.out];rintro e c8 ⟨rfl,bl,bv,rfl⟩)
    | (go_at_call 118;(with_reducible refine(ziZ T3 _ t3).mono ?_);rw[aY.out];rintro e ca ⟨rfl,bm,bw,rfl⟩))
   all_goals go_wp2_with(first
    | (go_at_call 123;(with_reducible refine(zxV QY _ aE).mono ?_);rintro e cc ⟨rfl,bn,bx,rfl⟩)
    | (go_at_call 117;(with_reducible refine(zfH (uk QY) _).mono ?_);rw[b9.out];rintro e cd ⟨rfl,bo,bz,rfl⟩))
   all_goals go_ret
   all_goals exact⟨mP HR.out.symm,a6.trans gF⟩
end Go.Proofs.YthgbglbaemelhaaGreat
