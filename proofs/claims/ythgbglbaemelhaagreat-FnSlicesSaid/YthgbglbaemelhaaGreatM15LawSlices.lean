/-
  PART.
-/
import Derived.Test.YthgbglbaemelhaaGreatM12LawSlices
import Derived.Test.YthgbglbaemelhaaGreatM14LawSlices
set_option linter.unusedVariables false
set_option linter.unusedSimpArgs false
set_option maxRecDepth 100000
set_option maxHeartbeats 8000000
namespace Go.Proofs.YthgbglbaemelhaaGreat
open Value renaming slice->G,int->J,bool->H,string->V
open IntKind renaming i64->C,wrap->QP
open Option renaming none->D,some->Z
open Obj renaming cells->F
open Bool renaming false->I,true->M
open Go renaming World->U,Calls->Rh,Addr->Ri
open RowKit renaming intOf->Ry
open _root_.Nat renaming add_zero->RK
open Tryz
open Go.RowKit
variable {S:Q Nat}{c:Nat}
theorem MD {x q:fQ} (h:decide (x.Level<q.Level)=I):(rq q x=M/\(q.Level == x.Level)=M/\(x.Level == q.Level)=M/\decide (x.Start<q.End)=M/\x.Start<q.End)∨(rq q x=I/\(q.Level == x.Level)=M/\(x.Level == q.Level)=M/\decide (x.Start<q.End)=I/\¬ x.Start<q.End)∨(rq q x=I/\(q.Level == x.Level)=I/\(x.Level == q.Level)=I/\True/\True):=by
 by_cases a2:q.Level=x.Level
 ·have b2:(q.Level == x.Level)=M:=Rt.2 a2
  have c2:(x.Level == q.Level)=M:=Rt.2 a2.symm;by_cases a3:x.Start<q.End
  ·exact .inl ⟨by unfold rq;rw[h,b2,QY a3];rfl,b2,c2,QY a3,a3⟩
  ·exact .inr (.inl ⟨by unfold rq;rw[h,b2,QT a3];rfl,b2,c2,QT a3,a3⟩)
 ·have b2:(q.Level == x.Level)=I:=QV.2 a2
  have c2:(x.Level == q.Level)=I:=QV.2 (fun g=>a2 g.symm);exact .inr (.inr ⟨by unfold rq;rw[h,b2];rfl,b2,c2,trivial,trivial⟩)
theorem lz {g:Prop} (f:g:=by
  go_wp2_with(fail)
  go_ret
  exact⟨zo (by rw[<-hE.out,vF HX.out,HR.out];rfl),hG0.trans gG⟩):g:=f
theorem ua {g:Prop} (f:g:=by
  go_wp2_with(first | (go_at_call 43;(with_reducible refine(gY x.Level 0 2 _).mono ?_);rw[HB4.out];rintro e w1 ⟨rfl,rfl⟩) | (go_at_call 43;(with_reducible refine(gY x.fH 0 59 _).mono ?_);rw[HB5.out];rintro e w1 ⟨rfl,rfl⟩) | (go_at_call 133;(with_reducible refine(qT x.Name _ bn).mono ?_);rw[HB6.out];rintro e w1 ⟨rfl,rfl⟩))
  go_ret
  exact⟨zo (by rw[<-hE.out,vF HX.out,HR.out];rfl),hG0.trans gG⟩):g:=f
theorem uq {g:Prop} (f:g:=by
  go_wp2_with(first | (go_at_call 43;(with_reducible refine(gY x.Level 0 2 _).mono ?_);rw[HB4.out];rintro e w1 ⟨rfl,rfl⟩) | (go_at_call 43;(with_reducible refine(gY x.fH 0 59 _).mono ?_);rw[HB5.out];rintro e w1 ⟨rfl,rfl⟩))
  go_ret
  exact⟨zo (by rw[<-hE.out,vF HX.out,HR.out];rfl),hG0.trans gG⟩):g:=f
theorem uE {g:Prop} (f:g:=by
  go_wp2_with(first | (go_at_call 43;(with_reducible refine(gY x.Level 0 2 _).mono ?_);rw[HB4.out];rintro e w1 ⟨rfl,rfl⟩))
  go_ret
  exact⟨zo (by rw[<-hE.out,vF HX.out,HR.out];rfl),hG0.trans gG⟩):g:=f
theorem vB {g:Prop} (f:g:=by
  go_wp2_with(fail)
  go_ret
  exact⟨zo (by rw[<-hE.out,vF HX.out,<-HZ.out];rfl),hGv.trans gG⟩):g:=f
theorem zcN {rs:Q fQ} {w:U} {A:X Ri} (hx:(kE.sl 214).R w w.heap.size [G A rs.length c] rs) :
  Rh prog 116 #[G A rs.length c] w fun e w'=>e=.returned (H (vK rs))/\ft w w':=by
 obtain⟨_,_,ay,h1,h2⟩:=lu hx;injection ay with e1 e2 e3
 subst e1 e3;clear e2;go_enter func116,ntmps116;go_wp2;go_loopw [3] (fun a wr=>∃ k:Nat,a=J C k/\k<=rs.length/\Hid (ft w wr)/\Hid (wg rs k (rs.drop k)=vK rs)) (fun a _=>rs.length-(Ry a).toNat)
 case atStart=>exact⟨0,rfl,QX _,fh (ft.refl _),fh rfl⟩
 case round=>
  obtain⟨k,rfl,hk,hG,hE⟩:=hrel;obtain⟨os,d,rfl⟩:=hG.out;clear hG;by_cases hlt:k<rs.length
  ·obtain⟨g,aI,x,hA,aB,au,x0,x1,x2,x3,x4,bs,be,bl,bi,bn⟩:=At hx hlt
   have HX:=fh au;have x0:=zd x0 os d;have x1:=zd x1 os d;have x2:=zd x2 os d;have x3:=zd x3 os d;have x4:=zd x4 os d;have aw:(k:Int)<(rs.length:Int):=by omega
   clear au;subst hA;cases k with
   | zero=>
    simp only[Ux,RK] at x0 x1 x2 x3 x4;have hz:¬ ((0:Int)<((0:Nat):Int)):=by omega
    go_upto_region 5 with(fail);have hG0:ft w ((fx w os d).alloc (F #[J C x.Start,J C x.End,J C x.Level,J C x.fH,V x.Name] 214)):=gG;have eb:=QO (fx w os d) (F #[J C x.Start,J C x.End,J C x.Level,J C x.fH,V x.Name] 214);obtain⟨gb,a2⟩:∃ g,w.heap.size+os.size=g:=⟨_,rfl⟩
    rw[show (fx w os d).heap.size=w.heap.size+os.size from by simp,a2] at eb
    try rw[a2]
    clear x0 x1 x2 x3 x4;generalize (fx w os d).alloc _=Y at hG0 eb |-;obtain⟨z0,z1,z2,z3,z4,zf,zl⟩:=iY eb;by_cases d1:x.Start<0
    ·have ak:decide (x.Start<0)=M:=QY d1
     have HL:=fh (show jO x=I from by unfold jO;rw[show decide (0<=x.Start)=I from QT (by omega)];simp);have HR:=fh (show lj rs 0 x=I from qp HL.out);exact lz
    ·have ak:decide (x.Start<0)=I:=QT d1
     have c1:decide (0<=x.Start)=M:=QY (by omega);by_cases d2:x.End<=x.Start
     ·have al:decide (x.End<=x.Start)=M:=QY d2
      have HL:=fh (show jO x=I from by unfold jO;rw[show decide (x.Start<x.End)=I from QT (by omega)];simp);have HR:=fh (show lj rs 0 x=I from qp HL.out);exact lz
     ·have al:decide (x.End<=x.Start)=I:=QT d2
      have c2:decide (x.Start<x.End)=M:=QY (by omega);by_cases d3:1000000<x.End
      ·have am:decide (1000000<x.End)=M:=QY d3
       have HL:=fh (show jO x=I from by unfold jO;rw[show decide (x.End<=1000000)=I from QT (by omega)];simp);have HR:=fh (show lj rs 0 x=I from qp HL.out);exact lz
      ·have am:decide (1000000<x.End)=I:=QT d3
       have c3:decide (x.End<=1000000)=M:=QY (by omega);obtain⟨b4,ab⟩:∃ b,fT x.Level 0 2=b:=⟨_,rfl⟩
       have HB4:=fh ab;clear ab;cases b4 with
       | false=>
        have HL:=fh (show jO x=I from by unfold jO;rw[HB4.out];simp);have HR:=fh (show lj rs 0 x=I from qp HL.out);exact uE
       | true=>
        obtain⟨b5,ac⟩:∃ b,fT x.fH 0 59=b:=⟨_,rfl⟩
        have HB5:=fh ac;clear ac;cases b5 with
        | false=>
         have HL:=fh (show jO x=I from by unfold jO;rw[HB5.out];simp);have HR:=fh (show lj rs 0 x=I from qp HL.out);exact uq
        | true=>
         obtain⟨b6,ad⟩:∃ b,kU x.Name=b:=⟨_,rfl⟩
         have HB6:=fh ad;clear ad;cases b6 with
         | false=>
          have HL:=fh (show jO x=I from by unfold jO;rw[HB6.out];simp);have HR:=fh (show lj rs 0 x=I from qp HL.out);exact ua
         | true=>
          have HL:=fh (show jO x=M from by unfold jO;rw[c1,c2,c3,HB4.out,HB5.out,HB6.out];rfl);have ax:=Gy HL.out;go_wp2_with(first | (go_at_call 43;(with_reducible refine(gY x.Level 0 2 _).mono ?_);rw[HB4.out];rintro e w1 ⟨rfl,rfl⟩) | (go_at_call 43;(with_reducible refine(gY x.fH 0 59 _).mono ?_);rw[HB5.out];rintro e w1 ⟨rfl,rfl⟩) | (go_at_call 133;(with_reducible refine(qT x.Name _ bn).mono ?_);rw[HB6.out];rintro e w1 ⟨rfl,rfl⟩));go_quiet (fail);have hGv:=hG0;have HK:=fh (MC (all:=rs) HL.out);obtain⟨bv,ai⟩:∃ bv,(x.Level == 0)=bv:=⟨_,rfl⟩
          rw[ai] at HK;go_wp2_with(fail);go_loopw [5,6] (fun v a wr=>∃(i:Nat) (b:Bool),v=H b/\a=J C i/\i<=0/\Hid (ft Y wr)/\Hid (rV x b ((rs.take 0).drop i)=lj rs 0 x)) (fun _ a _=>0-(Ry a).toNat)
          case atStart=>exact⟨0,bv,rfl,rfl,QX _,fh gG,fh (by rw[HK.out];rfl)⟩
          case round=>
           obtain⟨i,b,rfl,rfl,hi,aa,a4⟩:=hrel;obtain⟨a0,d2,rfl⟩:=aa.out;clear aa;have z0:=zd z0 a0 d2;have z1:=zd z1 a0 d2;have z2:=zd z2 a0 d2;have z3:=zd z3 a0 d2;have z4:=zd z4 a0 d2;by_cases hlt2:i<0
           ·exact absurd hlt2 (Uv _)
           ·have aq:¬ ((i:Int)<((0:Nat):Int)):=by omega
            have a5:=a4.out;rw[ES (by omega)] at a5;have HZ:=fh a5;clear a5;cases b with
            | true=>
             go_wp2_with(fail);go_roundw;exact⟨0+1,by go_num,by omega,fh (hGv.trans gG),fh (by rw[<-hE.out,vF HX.out,<-HZ.out];rfl)⟩;exact gH
            | false=>
             exact vB
   | succ j=>
    obtain⟨gq,aA,q,ao,_,ar,u0,u1,u2,u3,u4,_⟩:=At hx (k:=j) (by omega);injection ao with ao
    injection ao with hq1 hq2
    subst hq1 hq2;have HQ:=fh ar;clear ar u0 u3 u4;have hz:(0:Int)<(j:Int)+1:=by omega
    have aH:QP C ((j:Int)+1-1)=(j:Int):=by rw[show (j:Int)+1-1=(j:Int) from by omega];exact iw
    have aG:QP C (j:Int)=(j:Int):=iw;have aD:(0:Int)<=(j:Int):=by omega
    have aE:(j:Int)<(rs.length:Int):=by omega
    go_upto_region 5 with(fail);have hG0:ft w ((fx w os d).alloc (F #[J C x.Start,J C x.End,J C x.Level,J C x.fH,V x.Name] 214)):=gG;have eb:=QO (fx w os d) (F #[J C x.Start,J C x.End,J C x.Level,J C x.fH,V x.Name] 214);obtain⟨gb,a2⟩:∃ g,w.heap.size+os.size=g:=⟨_,rfl⟩
    rw[show (fx w os d).heap.size=w.heap.size+os.size from by simp,a2] at eb
    try rw[a2]
    clear x0 x1 x2 x3 x4;generalize (fx w os d).alloc _=Y at hG0 eb |-;obtain⟨z0,z1,z2,z3,z4,zf,zl⟩:=iY eb;have u1:=za hG0 u1;have u2:=za hG0 u2;by_cases d1:x.Start<0
    ·have ak:decide (x.Start<0)=M:=QY d1
     have HL:=fh (show jO x=I from by unfold jO;rw[show decide (0<=x.Start)=I from QT (by omega)];simp);have HR:=fh (show lj rs (j+1) x=I from qp HL.out);exact lz
    ·have ak:decide (x.Start<0)=I:=QT d1
     have c1:decide (0<=x.Start)=M:=QY (by omega);by_cases d2:x.End<=x.Start
     ·have al:decide (x.End<=x.Start)=M:=QY d2
      have HL:=fh (show jO x=I from by unfold jO;rw[show decide (x.Start<x.End)=I from QT (by omega)];simp);have HR:=fh (show lj rs (j+1) x=I from qp HL.out);exact lz
     ·have al:decide (x.End<=x.Start)=I:=QT d2
      have c2:decide (x.Start<x.End)=M:=QY (by omega);by_cases d3:1000000<x.End
      ·have am:decide (1000000<x.End)=M:=QY d3
       have HL:=fh (show jO x=I from by unfold jO;rw[show decide (x.End<=1000000)=I from QT (by omega)];simp);have HR:=fh (show lj rs (j+1) x=I from qp HL.out);exact lz
      ·have am:decide (1000000<x.End)=I:=QT d3
       have c3:decide (x.End<=1000000)=M:=QY (by omega);obtain⟨b4,ab⟩:∃ b,fT x.Level 0 2=b:=⟨_,rfl⟩
       have HB4:=fh ab;clear ab;cases b4 with
       | false=>
        have HL:=fh (show jO x=I from by unfold jO;rw[HB4.out];simp);have HR:=fh (show lj rs (j+1) x=I from qp HL.out);exact uE
       | true=>
        obtain⟨b5,ac⟩:∃ b,fT x.fH 0 59=b:=⟨_,rfl⟩
        have HB5:=fh ac;clear ac;cases b5 with
        | false=>
         have HL:=fh (show jO x=I from by unfold jO;rw[HB5.out];simp);have HR:=fh (show lj rs (j+1) x=I from qp HL.out);exact uq
        | true=>
         obtain⟨b6,ad⟩:∃ b,kU x.Name=b:=⟨_,rfl⟩
         have HB6:=fh ad;clear ad;cases b6 with
         | false=>
          have HL:=fh (show jO x=I from by unfold jO;rw[HB6.out];simp);have HR:=fh (show lj rs (j+1) x=I from qp HL.out);exact ua
         | true=>
          have HL:=fh (show jO x=M from by unfold jO;rw[c1,c2,c3,HB4.out,HB5.out,HB6.out];rfl);have ax:=Gy HL.out;by_cases a1:x.Level<q.Level
          ·have ae:decide (x.Level<q.Level)=M:=QY a1
           have HR:=fh (show lj rs (j+1) x=I from Gz HQ.out (by unfold rq;rw[ae];rfl));go_wp2_with(first | (go_at_call 43;(with_reducible refine(gY x.Level 0 2 _).mono ?_);rw[HB4.out];rintro e w1 ⟨rfl,rfl⟩) | (go_at_call 43;(with_reducible refine(gY x.fH 0 59 _).mono ?_);rw[HB5.out];rintro e w1 ⟨rfl,rfl⟩) | (go_at_call 133;(with_reducible refine(qT x.Name _ bn).mono ?_);rw[HB6.out];rintro e w1 ⟨rfl,rfl⟩));go_quiet (fail);exact lz
          ·have ae:decide (x.Level<q.Level)=I:=QT a1
           rcases MD ae with⟨hB,ag,ap,ah,a3⟩ | ⟨hB,ag,ap,ah,a3⟩ | ⟨hB,ag,ap,ah,a3⟩
           ·clear hB
            have HR:=fh (show lj rs (j+1) x=I from Gz HQ.out (by unfold rq;rw[ae,ag,ah];rfl));go_wp2_with(first | (go_at_call 43;(with_reducible refine(gY x.Level 0 2 _).mono ?_);rw[HB4.out];rintro e w1 ⟨rfl,rfl⟩) | (go_at_call 43;(with_reducible refine(gY x.fH 0 59 _).mono ?_);rw[HB5.out];rintro e w1 ⟨rfl,rfl⟩) | (go_at_call 133;(with_reducible refine(qT x.Name _ bn).mono ?_);rw[HB6.out];rintro e w1 ⟨rfl,rfl⟩));go_quiet (fail);exact lz
           all_goals
            have HB:=fh hB
            clear hB
            go_wp2_with(first | (go_at_call 43;(with_reducible refine(gY x.Level 0 2 _).mono ?_);rw[HB4.out];rintro e w1 ⟨rfl,rfl⟩) | (go_at_call 43;(with_reducible refine(gY x.fH 0 59 _).mono ?_);rw[HB5.out];rintro e w1 ⟨rfl,rfl⟩) | (go_at_call 133;(with_reducible refine(qT x.Name _ bn).mono ?_);rw[HB6.out];rintro e w1 ⟨rfl,rfl⟩))
            go_quiet (fail)
            have hGv:=hG0
            have HK:=fh (MB HL.out HQ.out HB.out)
            obtain⟨bv,ai⟩:∃ bv,(x.Level == 0)=bv:=⟨_,rfl⟩
            rw[ai] at HK
            go_wp2_with(fail)
            go_loopw [5,6] (fun v a wr=>∃(i:Nat) (b:Bool),v=H b/\a=J C i/\i<=(j+1)/\Hid (ft Y wr)/\Hid (rV x b ((rs.take (j+1)).drop i)=lj rs (j+1) x)) (fun _ a _=>(j+1)-(Ry a).toNat)
            case atStart=>exact⟨0,bv,rfl,rfl,QX _,fh gG,fh (by rw[HK.out];rfl)⟩
            case round=>
             obtain⟨i,b,rfl,rfl,hi,aa,a4⟩:=hrel;obtain⟨a0,d2,rfl⟩:=aa.out;clear aa;have z0:=zd z0 a0 d2;have z1:=zd z1 a0 d2;have z2:=zd z2 a0 d2;have z3:=zd z3 a0 d2;have z4:=zd z4 a0 d2;by_cases hlt2:i<(j+1)
             ·obtain⟨g',az,y,an,_,av,m0,m1,m2,m3,m4,_,_,_,_,_⟩:=At hx (k:=i) (by omega)
              injection an with an
              injection an with q1 q2
              subst q1 q2;have m0:=zd (za hGv m0) a0 d2;have m1:=zd (za hGv m1) a0 d2;have m2:=zd (za hGv m2) a0 d2;have m3:=zd (za hGv m3) a0 d2;have m4:=zd (za hGv m4) a0 d2;have HY:=fh av;have aq:(i:Int)<((j:Int)+1):=by omega
              have aC:(i:Int)<(rs.length:Int):=by omega
              have aF:QP C (x.Level-1)=x.Level-1:=iw;clear av;cases b with
              | true=>
               go_wp2_with(fail);go_quiet (fail);go_wp2_with(fail);go_roundw;exact⟨i+1,M,rfl,by go_num,by omega,fh gG,fh (by rw[<-a4.out,xS HY.out hlt2];rfl)⟩;exact gH
              | false=>
               by_cases a6:y.Level=x.Level-1
               ·have a9:(y.Level == x.Level-1)=M:=by simp[a6]
                clear a6;by_cases a7:y.Start<=x.Start
                ·have af:decide (y.Start<=x.Start)=M:=QY a7
                 by_cases a8:x.End<=y.End
                 ·have aj:decide (x.End<=y.End)=M:=QY a8
                  go_wp2_with(fail);go_quiet (fail);go_wp2_with(fail);go_roundw;exact⟨i+1,M,rfl,by go_num,by omega,fh gG,fh (by rw[<-a4.out,xS HY.out hlt2,show rz x y=M from by unfold rz;rw[a9,af,aj];rfl];rfl)⟩;exact gH
                 ·have aj:decide (x.End<=y.End)=I:=QT a8
                  go_wp2_with(fail);go_quiet (fail);go_wp2_with(fail);go_roundw;exact⟨i+1,I,rfl,by go_num,by omega,fh gG,fh (by rw[<-a4.out,xS HY.out hlt2,show rz x y=I from by unfold rz;rw[a9,af,aj];rfl];rfl)⟩;exact gH
                ·have af:decide (y.Start<=x.Start)=I:=QT a7
                 go_wp2_with(fail);go_quiet (fail);go_wp2_with(fail);go_roundw;exact⟨i+1,I,rfl,by go_num,by omega,fh gG,fh (by rw[<-a4.out,xS HY.out hlt2,show rz x y=I from by unfold rz;rw[a9,af];rfl];rfl)⟩;exact gH
               ·have a9:(y.Level == x.Level-1)=I:=by simp[a6]
                clear a6;go_wp2_with(fail);go_quiet (fail);go_wp2_with(fail);go_roundw;exact⟨i+1,I,rfl,by go_num,by omega,fh gG,fh (by rw[<-a4.out,xS HY.out hlt2,show rz x y=I from by unfold rz;rw[a9];rfl];rfl)⟩;exact gH
             ·have aq:¬ ((i:Int)<((j:Int)+1)):=by omega
              have a5:=a4.out;rw[ES (by omega)] at a5;have HZ:=fh a5;clear a5;cases b with
              | true=>
               go_wp2_with(fail);go_roundw;exact⟨(j+1)+1,by go_num,by omega,fh (hGv.trans gG),fh (by rw[<-hE.out,vF HX.out,<-HZ.out];rfl)⟩;exact gH
              | false=>
               exact vB
  ·have aw:¬ ((k:Int)<(rs.length:Int)):=by omega
   go_wp2_with(fail);go_ret;refine⟨zo ?_,gG⟩;rw[<-hE.out,show k=rs.length from by omega,Rq];rfl
theorem fw.on {L:Q Nat} {v a b c:U} (h:fw L v a)(hg:ft a b)(hon:fw S b c)(hS:∀ k∈S,k∈L∨v.heap.size<=k):fw L v c:=by
 have k:=h.trans (hg.only L);exact⟨hon.os.trans k.os,hon.tape.trans k.tape,hon.output.trans k.output,Rj k.size hon.size,fun i hi hn=>(hon.block i (QS hi k.size) (fun hm=>(hS i hm).elim hn (fun h=>by omega))).trans (k.block i hi hn)⟩
theorem O3 {α:Type} {T:Ty α} {e:TypeId} {W:U} {g off n:Nat} {xs:Q α} (h:Has (T.sl e) W [G (Z ⟨g,off,D⟩) n c] xs S):g∈S:=by
 obtain⟨⟨A',c',a0,S',h1,h2,h3,h4⟩,_⟩:=h;injection h1 with h1 _
 injection h1 with hA _ _
 subst hA h4;simp[kj]
end Go.Proofs.YthgbglbaemelhaaGreat
