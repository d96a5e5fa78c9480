/-
  PART.
-/
import Derived.Test.YthgbglbaemelhaaGreatM8LawThreadsApart
set_option linter.unusedVariables false
set_option linter.unusedSimpArgs false
set_option maxRecDepth 100000
set_option maxHeartbeats 8000000
namespace Go.Proofs.YthgbglbaemelhaaGreat
open Value renaming slice->G,int->J,bool->H,string->V
open IntKind renaming i64->Z,wrap->Rg
open Option renaming none->C,some->D,map_some->TK
open Obj renaming cells->F
open Bool renaming false->I,true->M
open Go renaming World->U,results->Rv,Calls->RD,Addr->RJ,TypeId->R5,bytes->Ti,yielded->Th
open World renaming cell?->Rb,alloc->Su
open RowKit renaming intOf->RS
open List renaming nil_append->RY
open _root_.Nat renaming add_zero->Sr
open Builtin renaming append_->Tk
open Region renaming wanted->RV,ready->Sn,noSelect->TZ,Mode->Ub,free->Wu
open Tryz
open Go.RowKit
variable {A A0 A1:X RJ}{S:Q Nat}{W W' w w':U}{a b t:gB}{c c0 c1 g n:Nat}{e:R5}{kd p:Int}{l xs:Q gB}{o:Obj}{r:iu}{x:fw}
theorem N0 {x q:fQ} (h:decide (x.Do<q.Do)=I):(rH q x=M/\(q.Do == x.Do)=M/\(x.Do == q.Do)=M/\decide (x.kw<q.PP)=M/\x.kw<q.PP)∨(rH q x=I/\(q.Do == x.Do)=M/\(x.Do == q.Do)=M/\decide (x.kw<q.PP)=I/\¬ x.kw<q.PP)∨(rH q x=I/\(q.Do == x.Do)=I/\(x.Do == q.Do)=I/\True/\True):=by
 by_cases a2:q.Do=x.Do
 ·have b2:(q.Do == x.Do)=M:=RQ.2 a2
  have c2:(x.Do == q.Do)=M:=RQ.2 a2.symm;by_cases a3:x.kw<q.PP
  ·exact .inl ⟨by unfold rH;rw[h,b2,Rp a3];rfl,b2,c2,Rp a3,a3⟩
  ·exact .inr (.inl ⟨by unfold rH;rw[h,b2,Rk a3];rfl,b2,c2,Rk a3,a3⟩)
 ·have b2:(q.Do == x.Do)=I:=Rm.2 a2
  have c2:(x.Do == q.Do)=I:=Rm.2 (fun g=>a2 g.symm);exact .inr (.inr ⟨by unfold rH;rw[h,b2];rfl,b2,c2,trivial,trivial⟩)
theorem lF {g:Prop} (f:g:=by
  go_wp2_with(fail)
  go_ret
  exact⟨zp (by rw[<-hE.out,wg HX.out,HR.out];rfl),hG0.trans gG⟩):g:=f
theorem uJ {g:Prop} (f:g:=by
  go_wp2_with(first | (go_at_call 43;(with_reducible refine(gW x.Do 0 2 _).mono ?_);rw[HB4.out];rintro e w1 ⟨rfl,rfl⟩) | (go_at_call 43;(with_reducible refine(gW x.fG 0 59 _).mono ?_);rw[HB5.out];rintro e w1 ⟨rfl,rfl⟩) | (go_at_call 133;(with_reducible refine(rr x.pu _ bn).mono ?_);rw[HB6.out];rintro e w1 ⟨rfl,rfl⟩))
  go_ret
  exact⟨zp (by rw[<-hE.out,wg HX.out,HR.out];rfl),hG0.trans gG⟩):g:=f
theorem uU {g:Prop} (f:g:=by
  go_wp2_with(first | (go_at_call 43;(with_reducible refine(gW x.Do 0 2 _).mono ?_);rw[HB4.out];rintro e w1 ⟨rfl,rfl⟩) | (go_at_call 43;(with_reducible refine(gW x.fG 0 59 _).mono ?_);rw[HB5.out];rintro e w1 ⟨rfl,rfl⟩))
  go_ret
  exact⟨zp (by rw[<-hE.out,wg HX.out,HR.out];rfl),hG0.trans gG⟩):g:=f
theorem vm {g:Prop} (f:g:=by
  go_wp2_with(first | (go_at_call 43;(with_reducible refine(gW x.Do 0 2 _).mono ?_);rw[HB4.out];rintro e w1 ⟨rfl,rfl⟩))
  go_ret
  exact⟨zp (by rw[<-hE.out,wg HX.out,HR.out];rfl),hG0.trans gG⟩):g:=f
theorem sd {g:Prop} (f:g:=by
  go_wp2_with(fail)
  go_ret
  exact⟨zp (by rw[<-hE.out,wg HX.out,<-HZ.out];rfl),hGv.trans gG⟩):g:=f
theorem zcY {rs:Q fQ} (hx:(kE.sl 214).R w w.heap.size [G A rs.length c] rs) :
  RD prog 116 #[G A rs.length c] w fun e w'=>e=.returned (H (wC rs))/\fu w w':=by
 obtain⟨_,_,ay,h1,h2⟩:=kJ hx;injection ay with e1 e2 e3
 subst e1 e3;clear e2;go_enter func116,ntmps116;go_wp2;go_loopw [3] (fun a wr=>∃ k:Nat,a=J Z k/\k<=rs.length/\Hid (fu w wr)/\Hid (wK rs k (rs.drop k)=wC rs)) (fun a _=>rs.length-(RS a).toNat)
 case atStart=>exact⟨0,rfl,Rl _,fh (fu.refl _),fh rfl⟩
 case round=>
  obtain⟨k,rfl,hk,hG,hE⟩:=hrel;obtain⟨os,d,rfl⟩:=hG.out;clear hG;by_cases hlt:k<rs.length
  ·obtain⟨g,aI,x,hA,aB,au,x0,x1,x2,x3,x4,bs,be,bl,bi,bn⟩:=Be hx hlt
   have HX:=fh au;have x0:=zd x0 os d;have x1:=zd x1 os d;have x2:=zd x2 os d;have x3:=zd x3 os d;have x4:=zd x4 os d;have aw:(k:Int)<(rs.length:Int):=K9;clear au;subst hA;cases k with
   | zero=>
    simp only[UT,Sr] at x0 x1 x2 x3 x4;have hz:¬ ((0:Int)<((0:Nat):Int)):=K9;go_upto_region 5 with(fail);have hG0:fu w ((fy w os d).alloc (F #[J Z x.kw,J Z x.PP,J Z x.Do,J Z x.fG,V x.pu] 214)):=gG;have eb:=Re (fy w os d) (F #[J Z x.kw,J Z x.PP,J Z x.Do,J Z x.fG,V x.pu] 214);obtain⟨gb,a2⟩:∃ g,w.heap.size+os.size=g:=⟨_,rfl⟩
    rw[show (fy w os d).heap.size=w.heap.size+os.size from II,a2] at eb
    try rw[a2]
    clear x0 x1 x2 x3 x4;generalize (fy w os d).alloc _=Y at hG0 eb |-;obtain⟨z0,z1,z2,z3,z4,zf,zl⟩:=jg eb;by_cases d1:x.kw<0
    ·have ak:decide (x.kw<0)=M:=Rp d1
     have HL:=fh (show jU x=I from by unfold jU;rw[show decide (0<=x.kw)=I from Rk K9];simp);have HR:=fh (show ly rs 0 x=I from qF HL.out);exact lF
    ·have ak:decide (x.kw<0)=I:=Rk d1
     have c1:decide (0<=x.kw)=M:=Rp K9;by_cases d2:x.PP<=x.kw
     ·have al:decide (x.PP<=x.kw)=M:=Rp d2
      have HL:=fh (show jU x=I from by unfold jU;rw[show decide (x.kw<x.PP)=I from Rk K9];simp);have HR:=fh (show ly rs 0 x=I from qF HL.out);exact lF
     ·have al:decide (x.PP<=x.kw)=I:=Rk d2
      have c2:decide (x.kw<x.PP)=M:=Rp K9;by_cases d3:1000000<x.PP
      ·have am:decide (1000000<x.PP)=M:=Rp d3
       have HL:=fh (show jU x=I from by unfold jU;rw[show decide (x.PP<=1000000)=I from Rk K9];simp);have HR:=fh (show ly rs 0 x=I from qF HL.out);exact lF
      ·have am:decide (1000000<x.PP)=I:=Rk d3
       have c3:decide (x.PP<=1000000)=M:=Rp K9;obtain⟨b4,ab⟩:∃ b,fP x.Do 0 2=b:=⟨_,rfl⟩
       have HB4:=fh ab;clear ab;cases b4 with
       | false=>
        have HL:=fh (show jU x=I from by unfold jU;rw[HB4.out];simp);have HR:=fh (show ly rs 0 x=I from qF HL.out);exact vm
       | true=>
        obtain⟨b5,ac⟩:∃ b,fP x.fG 0 59=b:=⟨_,rfl⟩
        have HB5:=fh ac;clear ac;cases b5 with
        | false=>
         have HL:=fh (show jU x=I from by unfold jU;rw[HB5.out];simp);have HR:=fh (show ly rs 0 x=I from qF HL.out);exact uU
        | true=>
         obtain⟨b6,ad⟩:∃ b,kZ x.pu=b:=⟨_,rfl⟩
         have HB6:=fh ad;clear ad;cases b6 with
         | false=>
          have HL:=fh (show jU x=I from by unfold jU;rw[HB6.out];simp);have HR:=fh (show ly rs 0 x=I from qF HL.out);exact uJ
         | true=>
          have HL:=fh (show jU x=M from by unfold jU;rw[c1,c2,c3,HB4.out,HB5.out,HB6.out];rfl);have ax:=Hm HL.out;go_wp2_with(first | (go_at_call 43;(with_reducible refine(gW x.Do 0 2 _).mono ?_);rw[HB4.out];rintro e w1 ⟨rfl,rfl⟩) | (go_at_call 43;(with_reducible refine(gW x.fG 0 59 _).mono ?_);rw[HB5.out];rintro e w1 ⟨rfl,rfl⟩) | (go_at_call 133;(with_reducible refine(rr x.pu _ bn).mono ?_);rw[HB6.out];rintro e w1 ⟨rfl,rfl⟩));go_quiet (fail);have hGv:=hG0;have HK:=fh (NZ (all:=rs) HL.out);obtain⟨bv,ai⟩:∃ bv,(x.Do == 0)=bv:=⟨_,rfl⟩
          rw[ai] at HK;go_wp2_with(fail);go_loopw [5,6] (fun v a wr=>∃(i:Nat) (b:Bool),v=H b/\a=J Z i/\i<=0/\Hid (fu Y wr)/\Hid (sH x b ((rs.take 0).drop i)=ly rs 0 x)) (fun _ a _=>0-(RS a).toNat)
          case atStart=>exact⟨0,bv,rfl,rfl,Rl _,fh gG,fh (by rw[HK.out];rfl)⟩
          case round=>
           obtain⟨i,b,rfl,rfl,hi,aa,a4⟩:=hrel;obtain⟨a0,d2,rfl⟩:=aa.out;clear aa;have z0:=zd z0 a0 d2;have z1:=zd z1 a0 d2;have z2:=zd z2 a0 d2;have z3:=zd z3 a0 d2;have z4:=zd z4 a0 d2;by_cases hlt2:i<0
           ·exact absurd hlt2 (UR _)
           ·have aq:¬ ((i:Int)<((0:Nat):Int)):=K9
            have a5:=a4.out;rw[FY K9] at a5;have HZ:=fh a5;clear a5;cases b with
            | true=>
             go_wp2_with(fail);go_roundw;exact⟨0+1,Ar,K9,fh (hGv.trans gG),fh (by rw[<-hE.out,wg HX.out,<-HZ.out];rfl)⟩;exact gM
            | false=>
             exact sd
   | succ j=>
    obtain⟨gq,aA,q,ao,_,ar,u0,u1,u2,u3,u4,_⟩:=Be hx (k:=j) K9;injection ao with ao
    injection ao with hq1 hq2
    subst hq1 hq2;have HQ:=fh ar;clear ar u0 u3 u4;have hz:(0:Int)<(j:Int)+1:=K9;have aH:Rg Z ((j:Int)+1-1)=(j:Int):=by rw[show (j:Int)+1-1=(j:Int) from K9];exact iw
    have aG:Rg Z (j:Int)=(j:Int):=iw;have aD:(0:Int)<=(j:Int):=K9;have aE:(j:Int)<(rs.length:Int):=K9;go_upto_region 5 with(fail);have hG0:fu w ((fy w os d).alloc (F #[J Z x.kw,J Z x.PP,J Z x.Do,J Z x.fG,V x.pu] 214)):=gG;have eb:=Re (fy w os d) (F #[J Z x.kw,J Z x.PP,J Z x.Do,J Z x.fG,V x.pu] 214);obtain⟨gb,a2⟩:∃ g,w.heap.size+os.size=g:=⟨_,rfl⟩
    rw[show (fy w os d).heap.size=w.heap.size+os.size from II,a2] at eb
    try rw[a2]
    clear x0 x1 x2 x3 x4;generalize (fy w os d).alloc _=Y at hG0 eb |-;obtain⟨z0,z1,z2,z3,z4,zf,zl⟩:=jg eb;have u1:=za hG0 u1;have u2:=za hG0 u2;by_cases d1:x.kw<0
    ·have ak:decide (x.kw<0)=M:=Rp d1
     have HL:=fh (show jU x=I from by unfold jU;rw[show decide (0<=x.kw)=I from Rk K9];simp);have HR:=fh (show ly rs (j+1) x=I from qF HL.out);exact lF
    ·have ak:decide (x.kw<0)=I:=Rk d1
     have c1:decide (0<=x.kw)=M:=Rp K9;by_cases d2:x.PP<=x.kw
     ·have al:decide (x.PP<=x.kw)=M:=Rp d2
      have HL:=fh (show jU x=I from by unfold jU;rw[show decide (x.kw<x.PP)=I from Rk K9];simp);have HR:=fh (show ly rs (j+1) x=I from qF HL.out);exact lF
     ·have al:decide (x.PP<=x.kw)=I:=Rk d2
      have c2:decide (x.kw<x.PP)=M:=Rp K9;by_cases d3:1000000<x.PP
      ·have am:decide (1000000<x.PP)=M:=Rp d3
       have HL:=fh (show jU x=I from by unfold jU;rw[show decide (x.PP<=1000000)=I from Rk K9];simp);have HR:=fh (show ly rs (j+1) x=I from qF HL.out);exact lF
      ·have am:decide (1000000<x.PP)=I:=Rk d3
       have c3:decide (x.PP<=1000000)=M:=Rp K9;obtain⟨b4,ab⟩:∃ b,fP x.Do 0 2=b:=⟨_,rfl⟩
       have HB4:=fh ab;clear ab;cases b4 with
       | false=>
        have HL:=fh (show jU x=I from by unfold jU;rw[HB4.out];simp);have HR:=fh (show ly rs (j+1) x=I from qF HL.out);exact vm
       | true=>
        obtain⟨b5,ac⟩:∃ b,fP x.fG 0 59=b:=⟨_,rfl⟩
        have HB5:=fh ac;clear ac;cases b5 with
        | false=>
         have HL:=fh (show jU x=I from by unfold jU;rw[HB5.out];simp);have HR:=fh (show ly rs (j+1) x=I from qF HL.out);exact uU
        | true=>
         obtain⟨b6,ad⟩:∃ b,kZ x.pu=b:=⟨_,rfl⟩
         have HB6:=fh ad;clear ad;cases b6 with
         | false=>
          have HL:=fh (show jU x=I from by unfold jU;rw[HB6.out];simp);have HR:=fh (show ly rs (j+1) x=I from qF HL.out);exact uJ
         | true=>
          have HL:=fh (show jU x=M from by unfold jU;rw[c1,c2,c3,HB4.out,HB5.out,HB6.out];rfl);have ax:=Hm HL.out;by_cases a1:x.Do<q.Do
          ·have ae:decide (x.Do<q.Do)=M:=Rp a1
           have HR:=fh (show ly rs (j+1) x=I from Hn HQ.out (by unfold rH;rw[ae];rfl));go_wp2_with(first | (go_at_call 43;(with_reducible refine(gW x.Do 0 2 _).mono ?_);rw[HB4.out];rintro e w1 ⟨rfl,rfl⟩) | (go_at_call 43;(with_reducible refine(gW x.fG 0 59 _).mono ?_);rw[HB5.out];rintro e w1 ⟨rfl,rfl⟩) | (go_at_call 133;(with_reducible refine(rr x.pu _ bn).mono ?_);rw[HB6.out];rintro e w1 ⟨rfl,rfl⟩));go_quiet (fail);exact lF
          ·have ae:decide (x.Do<q.Do)=I:=Rk a1
           rcases N0 ae with⟨hB,ag,ap,ah,a3⟩ | ⟨hB,ag,ap,ah,a3⟩ | ⟨hB,ag,ap,ah,a3⟩
           ·clear hB
            have HR:=fh (show ly rs (j+1) x=I from Hn HQ.out (by unfold rH;rw[ae,ag,ah];rfl));go_wp2_with(first | (go_at_call 43;(with_reducible refine(gW x.Do 0 2 _).mono ?_);rw[HB4.out];rintro e w1 ⟨rfl,rfl⟩) | (go_at_call 43;(with_reducible refine(gW x.fG 0 59 _).mono ?_);rw[HB5.out];rintro e w1 ⟨rfl,rfl⟩) | (go_at_call 133;(with_reducible refine(rr x.pu _ bn).mono ?_);rw[HB6.out];rintro e w1 ⟨rfl,rfl⟩));go_quiet (fail);exact lF
           all_goals
            have HB:=fh hB
            clear hB
            go_wp2_with(first | (go_at_call 43;(with_reducible refine(gW x.Do 0 2 _).mono ?_);rw[HB4.out];rintro e w1 ⟨rfl,rfl⟩) | (go_at_call 43;(with_reducible refine(gW x.fG 0 59 _).mono ?_);rw[HB5.out];rintro e w1 ⟨rfl,rfl⟩) | (go_at_call 133;(with_reducible refine(rr x.pu _ bn).mono ?_);rw[HB6.out];rintro e w1 ⟨rfl,rfl⟩))
            go_quiet (fail)
            have hGv:=hG0
            have HK:=fh (NY HL.out HQ.out HB.out)
            obtain⟨bv,ai⟩:∃ bv,(x.Do == 0)=bv:=⟨_,rfl⟩
            rw[ai] at HK
            go_wp2_with(fail)
            go_loopw [5,6] (fun v a wr=>∃(i:Nat) (b:Bool),v=H b/\a=J Z i/\i<=(j+1)/\Hid (fu Y wr)/\Hid (sH x b ((rs.take (j+1)).drop i)=ly rs (j+1) x)) (fun _ a _=>(j+1)-(RS a).toNat)
            case atStart=>exact⟨0,bv,rfl,rfl,Rl _,fh gG,fh (by rw[HK.out];rfl)⟩
            case round=>
             obtain⟨i,b,rfl,rfl,hi,aa,a4⟩:=hrel;obtain⟨a0,d2,rfl⟩:=aa.out;clear aa;have z0:=zd z0 a0 d2;have z1:=zd z1 a0 d2;have z2:=zd z2 a0 d2;have z3:=zd z3 a0 d2;have z4:=zd z4 a0 d2;by_cases hlt2:i<(j+1)
             ·obtain⟨g',az,y,an,_,av,m0,m1,m2,m3,m4,_,_,_,_,_⟩:=Be hx (k:=i) K9
              injection an with an
              injection an with q1 q2
              subst q1 q2;have m0:=zd (za hGv m0) a0 d2;have m1:=zd (za hGv m1) a0 d2;have m2:=zd (za hGv m2) a0 d2;have m3:=zd (za hGv m3) a0 d2;have m4:=zd (za hGv m4) a0 d2;have HY:=fh av;have aq:(i:Int)<((j:Int)+1):=K9;have aC:(i:Int)<(rs.length:Int):=K9;have aF:Rg Z (x.Do-1)=x.Do-1:=iw;clear av;cases b with
              | true=>
               go_wp2_with(fail);go_quiet (fail);go_wp2_with(fail);go_roundw;exact⟨i+1,M,rfl,Ar,K9,fh gG,fh (by rw[<-a4.out,yi HY.out hlt2];rfl)⟩;exact gM
              | false=>
               by_cases a6:y.Do=x.Do-1
               ·have a9:(y.Do == x.Do-1)=M:=by simp[a6]
                clear a6;by_cases a7:y.kw<=x.kw
                ·have af:decide (y.kw<=x.kw)=M:=Rp a7
                 by_cases a8:x.PP<=y.PP
                 ·have aj:decide (x.PP<=y.PP)=M:=Rp a8
                  go_wp2_with(fail);go_quiet (fail);go_wp2_with(fail);go_roundw;exact⟨i+1,M,rfl,Ar,K9,fh gG,fh (by rw[<-a4.out,yi HY.out hlt2,show rL x y=M from by unfold rL;rw[a9,af,aj];rfl];rfl)⟩;exact gM
                 ·have aj:decide (x.PP<=y.PP)=I:=Rk a8
                  go_wp2_with(fail);go_quiet (fail);go_wp2_with(fail);go_roundw;exact⟨i+1,I,rfl,Ar,K9,fh gG,fh (by rw[<-a4.out,yi HY.out hlt2,show rL x y=I from by unfold rL;rw[a9,af,aj];rfl];rfl)⟩;exact gM
                ·have af:decide (y.kw<=x.kw)=I:=Rk a7
                 go_wp2_with(fail);go_quiet (fail);go_wp2_with(fail);go_roundw;exact⟨i+1,I,rfl,Ar,K9,fh gG,fh (by rw[<-a4.out,yi HY.out hlt2,show rL x y=I from by unfold rL;rw[a9,af];rfl];rfl)⟩;exact gM
               ·have a9:(y.Do == x.Do-1)=I:=by simp[a6]
                clear a6;go_wp2_with(fail);go_quiet (fail);go_wp2_with(fail);go_roundw;exact⟨i+1,I,rfl,Ar,K9,fh gG,fh (by rw[<-a4.out,yi HY.out hlt2,show rL x y=I from by unfold rL;rw[a9];rfl];rfl)⟩;exact gM
             ·have aq:¬ ((i:Int)<((j:Int)+1)):=K9
              have a5:=a4.out;rw[FY K9] at a5;have HZ:=fh a5;clear a5;cases b with
              | true=>
               go_wp2_with(fail);go_roundw;exact⟨(j+1)+1,Ar,K9,fh (hGv.trans gG),fh (by rw[<-hE.out,wg HX.out,<-HZ.out];rfl)⟩;exact gM
              | false=>
               exact sd
  ·have aw:¬ ((k:Int)<(rs.length:Int)):=K9
   go_wp2_with(fail);go_ret;refine⟨zp ?_,gG⟩;rw[<-hE.out,show k=rs.length from K9,RL];rfl
theorem zM {a b:U} (h:fu a b){p:RJ}{v:Value}(hp:a.cell? p=D v):b.cell? p=D v:=by
 obtain⟨os,d,rfl⟩:=h;exact zd hp os d
def sM (rs:Q iu)(k:Nat):Int:=match k with
 | 0=>-1
 | j+1=>(rs[j]?.map iu.us).getD 0
theorem Dk:ui p r=M↔fP r.us 0 1000000=M/\fP r.fG 0 59=M/\p<r.us:=by
 unfold ui;simp only[Rq,RC];exact Vj
theorem DD (h:¬ (fP r.us 0 1000000=M/\fP r.fG 0 59=M/\p<r.us)):ui p r=I:=by
 cases hq:ui p r with
 | false=>rfl
 | true=>exact absurd (Dk.1 hq) h
theorem vi {g:Prop} (f:g:=by
  clear hx
  go_wp2_with(fail)
  go_quiet ((first | (go_at_call 43;with_reducible exact wH hb1 _ _) | (go_at_call 43;with_reducible exact wH hb2 _ _)))
  go_wp2_with(fail)
  go_ret
  exact⟨zp (by rw[<-hE.out,yv HX.out,HR.out];rfl),gG⟩):g:=f
theorem zfh {rs:Q iu} (hx:(lE.sl 216).R w w.heap.size [G A rs.length c] rs) :
  RD prog 115 #[G A rs.length c] w fun e w'=>e=.returned (H (qS (-1) rs))/\fu w w':=by
 obtain⟨_,_,a8,h1,h2⟩:=kJ hx;injection a8 with e1 e2 e3
 subst e1 e3;clear e2;go_enter func115,ntmps115;go_wp2;go_loopw [3] (fun a wr=>∃ k:Nat,a=J Z k/\k<=rs.length/\Hid (fu w wr)/\Hid (qS (sM rs k) (rs.drop k)=qS (-1) rs)) (fun a _=>rs.length-(RS a).toNat)
 case atStart=>exact⟨0,rfl,Rl _,fh (fu.refl _),fh rfl⟩
 case round=>
  obtain⟨k,rfl,hk,hG,hE⟩:=hrel;obtain⟨os,d,rfl⟩:=hG.out;clear hG;by_cases hlt:k<rs.length
  ·obtain⟨g,ad,r,hA,aa,a2,x0,x1,x2,bo,bl⟩:=DK hx hlt
   have HX:=fh a2;have x0:=zd x0 os d;have x1:=zd x1 os d;have x2:=zd x2 os d;have a6:(k:Int)<(rs.length:Int):=K9;clear a2;subst hA;obtain⟨b1,hb1⟩:∃ b,fP r.us 0 1000000=b:=⟨_,rfl⟩
   cases b1 with
   | false=>
    have HR:=fh (DD (p:=sM rs k) (r:=r) (by rw[hb1];simp));clear hx;go_wp2_with(fail);go_quiet ((first | (go_at_call 43;with_reducible exact wH hb1 _ _)));go_wp2_with(fail);go_ret;exact⟨zp (by rw[<-hE.out,yv HX.out,HR.out];rfl),gG⟩
   | true=>
    obtain⟨b2,hb2⟩:∃ b,fP r.fG 0 59=b:=⟨_,rfl⟩
    cases b2 with
    | false=>
     have HR:=fh (DD (p:=sM rs k) (r:=r) (by rw[hb2];simp));exact vi
    | true=>
     cases k with
     | zero=>
      simp only[UT,Sr] at x0 x1 x2;have hz:¬ ((0:Int)<((0:Nat):Int)):=K9;have a1:sM rs 0 = -1:=rfl;have a5:=zu.1 hb1;have HR:=fh (Dk.2 (show fP r.us 0 1000000=M/\fP r.fG 0 59=M/\sM rs 0<r.us from⟨hb1,hb2,K9⟩));go_wp2_with(fail);go_quiet ((first | (go_at_call 43;with_reducible exact wH hb1 _ _) | (go_at_call 43;with_reducible exact wH hb2 _ _)));go_wp2_with(fail);go_roundw;exact⟨0+1,Ar,K9,fh gG,fh (by rw[<-hE.out,yv HX.out,HR.out];simp[sM,HX.out])⟩;exact gM
     | succ j=>
      obtain⟨gq,a9,q,a0,_,a7,u0,u1,u2,_,_⟩:=DK hx (k:=j) K9;have u0:=zd u0 os d;injection a0 with a0
      injection a0 with hq1 hq2
      subst hq1 hq2;have a1:sM rs (j+1)=q.us:=by show (rs[j]?.map iu.us).getD 0=q.us;rw[a7];rfl
      have hz:(0:Int)<(j:Int)+1:=K9;have ac:Rg Z ((j:Int)+1-1)=(j:Int):=by rw[show (j:Int)+1-1=(j:Int) from K9];exact iw
      have ab:(j:Int)<(rs.length:Int):=K9;by_cases a3:r.us<=q.us
      ·have a4:decide (r.us<=q.us)=M:=Rp a3
       have HR:=fh (DD (p:=sM rs (j+1)) (r:=r) (by rw[a1];intro h;omega));exact vi
      ·have a4:decide (r.us<=q.us)=I:=Rk a3
       have HR:=fh (Dk.2 (show fP r.us 0 1000000=M/\fP r.fG 0 59=M/\sM rs (j+1)<r.us from⟨hb1,hb2,K9⟩));go_wp2_with(fail);go_quiet ((first | (go_at_call 43;with_reducible exact wH hb1 _ _) | (go_at_call 43;with_reducible exact wH hb2 _ _)));go_wp2_with(fail);go_roundw;exact⟨(j+1)+1,Ar,K9,fh gG,fh (by rw[<-hE.out,yv HX.out,HR.out];simp[sM,HX.out])⟩;exact gM
  ·have a6:¬ ((k:Int)<(rs.length:Int)):=K9
   go_wp2_with(fail);go_ret;refine⟨zp ?_,gG⟩;rw[<-hE.out,show k=rs.length from K9,RL];rfl
theorem fx.on {L:Q Nat} {v a b c:U} (h:fx L v a)(hg:fu a b)(hon:fx S b c)(hS:∀ k∈S,k∈L∨v.heap.size<=k):fx L v c:=by
 have k:=h.trans (hg.only L);exact⟨hon.os.trans k.os,hon.tape.trans k.tape,hon.output.trans k.output,RG k.size hon.size,fun i hi hn=>(hon.block i (Ri hi k.size) (fun hm=>(hS i hm).elim hn (fun h=>K9))).trans (k.block i hi hn)⟩
theorem PU {α:Type} {T:Ty α} {off:Nat} {xs:Q α} (h:Has (T.sl e) W [G (D ⟨g,off,C⟩) n c] xs S):g∈S:=by
 obtain⟨⟨A',c',a0,S',h1,h2,h3,h4⟩,_⟩:=h;injection h1 with h1 _
 injection h1 with hA _ _
 subst hA h4;simp[kj]
def ic (xs:Q gB)(w:U)(r:Ending)(w':U):Prop:=∃ A c S,r=.returned (G A xs.length c)/\Has (jf.sl 160) w' [G A xs.length c] xs S/\(∀ b∈S,w.heap.size<=b)/\fu w w'
theorem ic.mk {ys:Q gB} (h:Has (jf.sl 160) w' [G A n c] ys S)(he:ys=xs)(hn:n=ys.length)(hS:∀ b∈S,w.heap.size<=b)(hg:fu w w'):ic xs w (.returned (G A n c)) w':=by
 subst he hn;exact⟨A,c,S,rfl,h,hS,hg⟩
theorem Ex.nO (e:Ex)(h:e.wf):0<e.fold.length/\e.fold.length<=e.size:=by
 obtain⟨e',h1,h2,h3⟩:=e.ig h;rw[<-h2,e'.gj];exact⟨e'.size_pos,h3⟩
theorem gu.nO (ks:gu)(h:ks.wf):ks.len<=ks.fold.length/\ks.fold.length<=ks.size:=by
 obtain⟨k',h1,h2,h3,h4⟩:=ks.ig h;rw[<-h3,k'.gj,<-h2];exact⟨k'.kr,h4⟩
theorem Iw {W0:U} {B:Nat} (h:W.heap[g]?=D (F #[J Z t.li,J Z t.gZ,V t.pu] e (0,0)))(hR:jf.R W0 B [J Z t.li,J Z t.gZ,V t.pu] t):Has (jf.sl e) W [G (D ⟨g,0,C⟩) 1 1] [t] [g]:=
 ⟨qi (T:=jf) (xs:=[t]) h ⟨[J Z t.li,J Z t.gZ,V t.pu],[],[],[],rfl,rfl,pZ hR W,rfl,rfl⟩ II,II⟩
theorem OO {k a b Q7:Int} (hk:2<=k/\k<=6)(ha:fE a)(hb:fE b)(h:zO (k+3) a b=Q7)(w:U)(n:Nat):RD prog 142 #[J Z k,J Z a,J Z b] (w.drewN n) fun e w''=>e=.returned (J Z Q7)/\∃ m,w''=w.drewN m:=
 (zfQ hk ha hb).mono (by rintro e w' ⟨rfl,rfl⟩;exact⟨by rw[h],n,rfl⟩)
theorem LU (c a b:Int):fE (zO c a b):=by
 unfold zO;split
 ·exact xy _
 ·split
  ·exact xy _
  ·split
   ·exact xy _
   ·split
    ·split <;> exact⟨qo,qo⟩
    ·split
     ·split <;> exact⟨qo,qo⟩
     ·exact⟨qo,qo⟩
theorem MO (h:fP t.li 2 6=I):oE t l=t::l:=by
 rcases Af t l with h1 | ⟨a,b,_,h2,_⟩
 ·exact h1
 ·rw[h] at h2;cases h2
theorem MP (h:¬ l.length=2):oE t l=t::l:=by
 rcases Af t l with h1 | ⟨a,b,h2,_⟩
 ·exact h1
 ·rw[h2] at h;exact absurd rfl h
theorem NK (h:¬ a.li=0):oE t [a,b]=t::[a,b]:=by unfold oE;simp only;rw[Ro (fun hh=>h hh.2.1)]
theorem NL (h:¬ b.li=0):oE t [a,b]=t::[a,b]:=by unfold oE;simp only;rw[Ro (fun hh=>h hh.2.2.1)]
theorem NM (h:fP (zO (t.li+3) a.gZ b.gZ) 0 999=I):oE t [a,b]=t::[a,b]:=by unfold oE;simp only;rw[Ro (fun hh=>by rw[h] at hh;cases hh.2.2.2)]
theorem NN (h0:fP t.li 2 6=M)(h1:a.li=0)(h2:b.li=0)(h:fP (zO (t.li+3) a.gZ b.gZ) 0 999=M):oE t [a,b] = [sJ (zO (t.li+3) a.gZ b.gZ)]:=by unfold oE;simp only;rw[Rs ⟨h0,h1,h2,h⟩]
theorem Xi {g:Prop} (f:g:=by
  go_wp2_with(first | (go_at_call 43;(with_reducible refine(gW _ _ _ _).mono ?_);rw[HB.out];rintro e w1 ⟨rfl,rfl⟩))
  exact Rj (v:=G (D ⟨g7,o7,C⟩) (ys.length+1) c5) (by simp[Rv,results209,go_sem]) rfl (ic.mk (hH.out.fy gF) (by rw[HY.out];exact(HF.out).symm) II hS2 (hG.out.trans gF))):g:=f
theorem Xj {g:Prop} (f:g:=by
  go_wp2_with(first | (go_at_call 43;(with_reducible refine(gW _ _ _ _).mono ?_);rw[HB.out];rintro e w1 ⟨rfl,rfl⟩))
  exact Rj (v:=G A5 (ys.length+1) c5) (by simp[Rv,results209,go_sem]) rfl (ic.mk (hH.out.fy gF) (by rw[HY.out];exact(HF.out).symm) II hS2 (hG.out.trans gF))):g:=f
theorem zwa:∀(n:Nat)(e:Ex),e.size<=n->∀{xs:Q gB}{a:Nat}{rs:Q gB}{w:U}{A:X RJ}{c:Nat},(jf.sl 160).R w w.heap.size [G A xs.length c] xs->xs.length<=100000->e.wf->xs.drop a=e.flat++rs->
  RD prog 209 #[G A xs.length c,J Z a] w (ic e.fold w):=by
 intro n;induction n with
 | zero=>intro e he;have:=e.size_pos;omega
 | succ n ih=>
 intro e he xs a rs w A c hx aV hw hd;have hl:xs.length<=1099511627776:=K9
 match e,he,hw,hd with
 | .node t ks,he,hw,hd=>
 obtain⟨ak,hd1⟩:=xp (show xs.drop a=t::(ks.flat++rs) from hd);have aN:a<xs.length:=(Rd.1 ak).1;obtain⟨g,b7,x,hA,aP,aa,x0,x1,x2,bk,bn,bs⟩:=ue hx aN;obtain rfl:x=t:=by rw[ak] at aa;injection aa with aa;exact aa.symm
 clear ak aa
 have b4:ks.size<=xs.length:=by
  exact sc
 have aZ:=ks.nO hw.2.2;have b3:=ks.kr;have aU:ks.size<=n:=by simp only[Ex.size] at he;omega
 have aY:(a:Int)<(xs.length:Int):=K9;have aM:(0:Int)<=(a:Int):=K9;have ay:=fh hd1;have aC:Hid (jf.R w w.heap.size [J Z x.li,J Z x.gZ,V x.pu] x):=fh (te bk bn bs);have au:=fu.refl w;clear hd1;subst hA;go_enter func209,ntmps209;go_wp2_with(first | (go_at_call 216;(with_reducible refine(zq7 (t:=x) (ks:=ks) (rs:=rs) (Ty.up _ hx (au.trans gF)) hl hw hd).mono ?_);rintro e v1 ⟨AO,cO,SO,rfl,aJ,aL,ar⟩;have al:=au.trans (fu.trans (b:=_) gF ar)));have e5:Has (jf.sl 160) v1 [G (D ⟨w.heap.size,0,C⟩) 1 1] [x] [w.heap.size]:=Iw (zj (Re _ _) (fu.trans (b:=_) gF ar)) aC.out;have ai:∀ b∈SO,w.heap.size+1<=b:=fun b hb=>by have:=aL b hb;simp at this;omega
 go_loopw [5,7] (fun z j wr=>∃(k nx:Nat) (ys:Q gB) (qs:gu) (A5:X RJ) (c5:Nat) (S:Q Nat),z=G A5 (ys.length+1) c5/\j=J Z k/\k<=ks.len/\ys.length<=100000/\Hid (k+qs.len=ks.len)/\Hid (fu w wr)/\Hid (Has (jf.sl 160) wr [G A5 (ys.length+1) c5] (x::ys) S)/\Hid (∀ b∈S,w.heap.size<=b/\b∉SO)/\Hid (Has (zr.sl 3) wr [G AO (ks.gP (a+1)).length cO] (ks.gP (a+1)) SO)/\Hid qs.wf/\Hid (xs.drop nx=qs.flat++rs)/\Hid ((ks.gP (a+1)).drop k=qs.gP nx)/\Hid (ys++qs.fold=ks.fold)/\Hid (qs.size<=ks.size)) (fun _ j _=>ks.len-(RS j).toNat)
 case atStart=>
  exact⟨0,a+1,[],ks,_,1,[w.heap.size],rfl,rfl,Rl _,Rl _,fh K9,fh (al.trans gF),fh (e5.fy gF),fh (fun b hb=>by simp only[Rc] at hb;subst hb;exact⟨Ru _,fun hm=>by have:=ai _ hm;omega⟩),fh (aJ.fy gF),fh hw.2.2,ay,fh rfl,fh II,fh (Ru _)⟩
 case round=>
  obtain⟨k,nx,ys,qs,A5,c5,S,rfl,rfl,b2,b6,a2,hG,hH,hS,hO,ag,ae,af,hE,a4⟩:=hrel;have hS2:∀ b∈S,w.heap.size<=b:=fun b hb=>(hS.out b hb).1
  match qs,ag,ae,hE,a2,af,a4 with
  | .nil,ag,ae,hE,a2,af,a4=>
   have HY:Hid (ys=ks.fold):=fh (by have h:=hE.out;simpa[gu.fold] using h);have aT:¬ ((k:Int)<((ks.gP (a+1)).length:Int)):=by have h:=a2.out;simp only[gu.len,Sr] at h;rw[gu.ku];omega
   have x0:=za hG.out x0;have x1:=za hG.out x1;have x2:=za hG.out x2;have b1:=Ri aP hG.out.size;have ab:Hid ((Ex.node x ks).fold=oE x ks.fold):=fh rfl;rcases RX (fP x.li 2 6) with hb | hb
   rotate_left
   ·have HB:=fh hb
    have HF:Hid ((Ex.node x ks).fold=x::ks.fold):=fh (MO hb);clear hb;exact Xj
   ·have HB:=fh hb
    by_cases h2:ks.fold.length=2
    rotate_left
    ·have HF:Hid ((Ex.node x ks).fold=x::ks.fold):=fh (MP h2)
     have aW:((ys.length:Int)+1 == 3)=I:=Rm.2 (by rw[HY.out];omega);clear hb h2;exact Xj
    ·have ah:ys.length=2:=by rw[HY.out];exact h2
     obtain⟨g7,o7,p,ao,_,a3,p0,p1,p2,pk,pn,_⟩:=ue (xs:=x::ys) hH.out.read (k:=1) (by simp[ah]);obtain⟨g8,o8,r,ad,_,a5,r0,r1,r2,rk,rn,_⟩:=ue (xs:=x::ys) hH.out.read (k:=2) (by simp[ah])
     have ax:ys = [p,r]:=by
      match ys,ah,a3,a5 with
      | [y1,y2],_,a3,a5=>
       simp at a3 a5;rw[a3,a5]
     have ac:Hid (ks.fold = [p,r]):=fh (by rw[<-HY.out];exact ax);have aW:((ys.length:Int)+1 == 3)=M:=RQ.2 K9;have aE:(1:Int)<(ys.length:Int)+1:=K9;have aF:(2:Int)<(ys.length:Int)+1:=K9;rw[ao] at ad;injection ad with ad
     injection ad with q1 q2
     subst q1 q2;subst ao;simp only[Ur,Nat.reduceMul] at p0 p1 p2 r0 r1 r2;have b0:g7<wr.heap.size:=hH.out.lt g7 (PU hH.out);clear a3 a5 h2 ax ah;by_cases k1:p.li=0
     rotate_left
     ·have HF:Hid ((Ex.node x ks).fold=x::ks.fold):=fh (by rw[ab.out,ac.out];exact NK k1)
      have av:(p.li == 0)=I:=Rm.2 k1;clear hb k1;exact Xi
     ·by_cases k2:r.li=0
      rotate_left
      ·have HF:Hid ((Ex.node x ks).fold=x::ks.fold):=fh (by rw[ab.out,ac.out];exact NL k2)
       have av:(p.li == 0)=M:=RQ.2 k1;have aR:(r.li == 0)=I:=Rm.2 k2;clear hb k1 k2;exact Xi
      ·have av:(p.li == 0)=M:=RQ.2 k1
       have aR:(r.li == 0)=M:=RQ.2 k2;obtain⟨Q7,hV⟩:∃ Q7,zO (x.li+3) p.gZ r.gZ=Q7:=⟨_,rfl⟩
       have bV:fE Q7:=hV ▸ LU _ _ _;have hA:=OO (zu.1 hb) pn rn hV;rcases RX (fP Q7 0 999) with hv | hv
       ·have HV:=fh hv
        have HF:Hid ((Ex.node x ks).fold = [sJ Q7]):=fh (by rw[ab.out,ac.out,<-hV];exact NN hb k1 k2 (by rw[hV];exact hv));have aD:=fh hV;clear hb k1 k2 hv hV;go_wp2_with(first | (go_at_call 43;(with_reducible refine(gW _ _ _ _).mono ?_);rw[HB.out];rintro e w1 ⟨rfl,rfl⟩) | (go_quiet (first | (go_at_call 142;with_reducible exact hA _ _))) | (go_at_call 43;(with_reducible refine(gW _ _ _ _).mono ?_);rw[HV.out];rintro e w1 ⟨rfl,rfl⟩));have hz:(wr.alloc (F #[J Z x.li,J Z x.gZ,V x.pu] 160)).heap.size=wr.heap.size+1:=II;have ap:=Re (wr.alloc (F #[J Z x.li,J Z x.gZ,V x.pu] 160)) (F #[J Z 0,J Z Q7,V ⟨#[]⟩] 160);rw[hz] at ap;refine Rj (v:=G (D ⟨wr.heap.size+1,0,C⟩) 1 1) (by simp[Rv,results209,go_sem]) rfl ?_;refine ic.mk (xs:=(Ex.node x ks).fold) (ys:=[sJ Q7]) (n:=1) (S:=[wr.heap.size+1]) ?_ (HF.out).symm rfl (fun b hb=>by simp only[Rc] at hb;subst hb;have:=hG.out.size;omega) (hG.out.trans gF);refine Iw (t:=sJ Q7) (W0:=w) (B:=0) (zj ap gF) (te ⟨?_,?_⟩ bV ?_)
        all_goals (simp only[sJ];decide)
       ·have HV:=fh hv
        have HF:Hid ((Ex.node x ks).fold=x::ks.fold):=fh (by rw[ab.out,ac.out];exact NM (by rw[hV];exact hv));have aD:=fh hV;clear hb k1 k2 hv hV;go_wp2_with(first | (go_at_call 43;(with_reducible refine(gW _ _ _ _).mono ?_);rw[HB.out];rintro e w1 ⟨rfl,rfl⟩) | (go_quiet (first | (go_at_call 142;with_reducible exact hA _ _))) | (go_at_call 43;(with_reducible refine(gW _ _ _ _).mono ?_);rw[HV.out];rintro e w1 ⟨rfl,rfl⟩));exact Rj (v:=G (D ⟨g7,o7,C⟩) (ys.length+1) c5) (by simp[Rv,results209,go_sem]) rfl (ic.mk (hH.out.fy gF) (by rw[HY.out];exact(HF.out).symm) II hS2 (hG.out.trans gF))
  | .cons ex q,ag,ae,hE,a2,af,a4=>
   have aj:xs.drop nx=ex.flat++(q.flat++rs):=by rw[ae.out];simp only[gu.flat,RU]
   have a6:(ks.gP (a+1)).drop k=(nx:Int)::q.gP (nx+ex.size):=af.out;obtain⟨an,a7⟩:=xp a6;have a1:k<(ks.gP (a+1)).length:=(Rd.1 an).1;obtain⟨go,oo,v,aG,a8,vc,_,_⟩:=lJ hO.out.read a1;obtain rfl:v=(nx:Int):=by rw[an] at a8;injection a8 with a8;exact a8.symm
   have aT:(k:Int)<((ks.gP (a+1)).length:Int):=K9;have aQ:(0:Int)<=(k:Int):=K9;have aS:k<ks.len:=by rw[<-gu.ku ks (a+1)];exact a1
   have aO:ex.size<=n:=by have h:=a4.out;simp only[gu.size] at h;omega
   have am:ys.length+ex.fold.length<=100000:=by
    have h:=Ta List.length hE.out;simp only[gu.fold,Rh] at h;omega
   have a9:ex.wf/\q.wf:=ag.out;have aB:=fh a7;have aA:Hid (xs.drop (nx+ex.size)=q.flat++rs):=fh (by rw[<-Uf,aj,<-ex.gj,UH]);have az:=fh aj;subst aG;clear an a7 a6 aj a8 a1;go_wp2_with(first | (go_at_call 209;(with_reducible refine(ih ex aO (Ty.up _ hx (hG.out.trans gF)) aV a9.1 az.out).mono ?_);rintro e v2 ⟨AF,cF,SF,rfl,aI,aX,aq⟩) | (refine wV (L:=ys.length+1+ex.fold.length) rfl (.tmp 24) (.tmp 30) yK pZ (S:=S) (hH.out.fy (fu.trans (b:=_) gF (aq.trans gF))) (Ty.up _ aI.read gF) rfl rfl rfl rfl K9 K9 ?_;intro A8 c8 W8 S8 aw aH aK));have a0:fu wr v2:=fu.trans (b:=_) gF aq;go_roundw
   case measure=>exact gM
   case rel=>
    have b5:=a0.size;refine⟨k+1,nx+ex.size,ys++ex.fold,q,A8,c8,S8,by rw[Rh];congr 1;omega,Ar,K9,by rw[Rh];exact am,fh (by have h:=a2.out;simp only[gu.len] at h;omega),fh (aw.fy (hG.out.trans (a0.trans gF)) hS2),fh (by rw[Rh,show ys.length+ex.fold.length+1=ys.length+1+ex.fold.length from K9];simpa using aH),fh (fun b hb=>?_),fh ((hO.out.fy (a0.trans gF)).fJ aw (fun b hb hm=>(hS.out b hm).2 hb)),fh a9.2,aA,aB,fh (by rw[<-hE.out];simp[gu.fold]),fh (by have h:=a4.out;simp only[gu.size] at h;omega)⟩;rcases aK b hb with h | h
    ·exact hS.out b h
    ·have h1:=hG.out.size
     (try simp at h);exact⟨K9,fun hm=>by have:=hO.out.lt b hm;omega⟩
theorem qe {a b:U} {k:Nat} (h:fx S a b)(hn:k∉S)(hk:a.heap[k]?=D o):b.heap[k]?=D o:=(h.block k (blt hk) hn).trans hk
theorem OY {e:Ex} {rs:Q gB} (hx:(jf.sl 160).R w w.heap.size [G A xs.length c] xs)(hl:xs.length<=100000)(hw:e.wf)(hd:xs.drop 0=e.flat++rs) :
  RD prog 209 #[G A xs.length c,J Z 0] w (ic e.fold w):=zwa e.size e (Ru _) (a:=0) hx hl hw hd
theorem zqT (hx:(jf.sl 160).R w w.heap.size [G A xs.length c] xs)(hl:xs.length<=1099511627776) :
  RD prog 202 #[G A xs.length c] w (ic (rp xs) w):=by
 rcases RX (pL xs) with he | he
 ·obtain⟨e,hw,h1,a5,h2⟩:=zm he
  have a4:xs.length<=100000:=K9;have HE:=fh he;have HF:=fh h2;have HD:Hid (xs.drop 0=e.flat++[]):=fh (by rw[Sx,Tl];exact h1);clear he h1 h2;go_enter func202,ntmps202;go_wp2_with(first | (go_at_call 189;(with_reducible refine(zk5 hx hl).mono ?_);rw[HE.out];rintro e1 v1 ⟨rfl,a0⟩) | (go_at_call 209;(with_reducible refine(OY (Ty.up _ hx a0) a4 hw HD.out).mono ?_);rintro e2 v2 ⟨A2,c2,S2,rfl,a1,a2,a3⟩));refine Rj (v:=G A2 e.fold.length c2) (by simp[Rv,results202,go_sem]) rfl ?_;exact ic.mk (a1) (HF.out).symm rfl (fun b hb=>by have h1:=a2 b hb;have h2:=a0.size;omega) (a0.trans a3)
 ·have HE:=fh he
  clear he;go_enter func202,ntmps202;go_wp2_with(first | (go_at_call 189;(with_reducible refine(zk5 hx hl).mono ?_);rw[HE.out];rintro e1 v1 ⟨rfl,a0⟩));refine Rj (v:=G (D ⟨v1.heap.size,0,C⟩) 0 0) (by simp[Rv,results202,go_sem]) rfl ?_;exact ic.mk (xs:=rp xs) (ys:=[]) (n:=0) (S:=[v1.heap.size]) (Has.Wy jf (Re _ _)) (by unfold rp;rw[Ro (by rw[HE.out];decide)]) rfl (fun b hb=>by simp only[Rc] at hb;subst hb;exact a0.size) (a0.trans gF)
theorem tG:hU prog 96 9 iI 16:=by
 refine⟨underlying96,?_,qo⟩;have h:(prog.info? 9).map (fun i=>(i.zero,i.size,i.bytes))=D (D (V ⟨#[]⟩),1,16):=Fs;cases hi:prog.info? 9 with
 | none=>rw[hi] at h;simp at h
 | some i=>
  exact vT
def qZ (x:fw)(w:U)(r:Ending)(w':U):Prop:=∃ A0 c0 A1 c1 S,r=.returned (.agg #[J Z x.li,V x.pu,G A0 x.fL.length c0,G A1 x.Expr.length c1])/\Has zQ w' [J Z x.li,V x.pu,G A0 x.fL.length c0,G A1 x.Expr.length c1] x S/\(∀ b∈S,w.heap.size<=b)/\fu w w'
theorem qZ.mk (h:fU zQ w w' [J Z x.li,V x.pu,G A0 x.fL.length c0,G A1 x.Expr.length c1] x)(hg:fu w w'):qZ x w (.returned (.agg #[J Z x.li,V x.pu,G A0 x.fL.length c0,G A1 x.Expr.length c1])) w':=by
 obtain⟨S,h1,h2,h3⟩:=h;exact⟨_,_,_,_,S,rfl,⟨h1,h2⟩,h3,hg⟩
theorem Dr {S0 S1:Q Nat} (h0:fE x.li)(h1:x.pu.size<=9223372036854775807)(h2:Has (iI.sl 9) W [G A0 x.fL.length c0] x.fL S0)(h3:Has (jf.sl 160) W [G A1 x.Expr.length c1] x.Expr S1)(hd:∀ b∈S0,b∉S1) :
  Has zQ W [J Z x.li,V x.pu,G A0 x.fL.length c0,G A1 x.Expr.length c1] x (S0++S1):=
 ⟨My h0 h1 h2.1 h3.1,RM.2 ⟨h2.2,h3.2,fun a ha b hb he=>hd a ha (he ▸ hb)⟩⟩
theorem LX (hx:(jf.sl 160).R w w.heap.size [G A xs.length c] xs)(hl:xs.length<=1099511627776) :
  RD prog 215 #[G A xs.length c] w (ic xs w):=by
 go_enter func215,ntmps215;go_wp2_with(at_builtin;refine wV (L:=xs.length) rfl (.tmp 3) (.tmp 4) yK pZ (S:=[w.heap.size]) (Has.Wy jf (Re _ _)) (Ty.up _ hx gF) rfl rfl rfl (RF _).symm K9 K9 ?_;intro A7 c7 W7 S7 a3 a0 a1)
 have a2:∀ b∈S7,w.heap.size<=b:=fun b hb=>by
  rcases a1 b hb with h | h
  ·simp at h;omega
  ·simp at h;omega
 refine Rj (v:=G A7 xs.length c7) (by simp[Rv,results215,go_sem]) rfl ?_;rw[RY] at a0;exact ic.mk a0 rfl rfl a2 (a3.fy (W0:=w) gF (fun b hb=>by simp at hb;omega))
theorem J3.xO {α β:Type} {T:Ty α} {Q5:Ty β} {f:R5} {Y:U} {va vb vb':Value} {xa:Q α} {xb xb':Q β} {Sa Sb Sb':Q Nat} {go:Nat} (h:J3 T Q5 e f Y W va vb xa xb Sa Sb go o)(hg:fu W W')(hH:Has (Q5.sl f) W' [vb'] xb' Sb')(hS:∀ b∈Sb',W.heap.size<=b):J3 T Q5 e f Y W' va vb' xa xb' Sa Sb' go o:=by
 have hl:=(blt h.ho)
 refine⟨h.ha.fy hg,hH,fun b hb hm=>?_,h.la,fun b hb=>?_,h.hg.trans hg,zj h.ho hg,h.nt,fun hm=>?_⟩
 ·have:=h.ha.lt b hb;have:=hS b hm;omega
 ·have:=h.hg.size;have:=hS b hb;omega
 ·have:=hS go hm;omega
theorem zqG (p0:fE x.li)(p1:x.pu.size<=9223372036854775807)(h2:(iI.sl 9).R w w.heap.size [G A0 x.fL.length c0] x.fL)(h3:(jf.sl 160).R w w.heap.size [G A1 x.Expr.length c1] x.Expr)(hl2:x.fL.length<=1099511627776)(hl3:x.Expr.length<=1099511627776) :
  RD prog 208 #[.agg #[J Z x.li,V x.pu,G A0 x.fL.length c0,G A1 x.Expr.length c1]] w (qZ x w):=by
 go_enter func208,ntmps208;go_wp2_with(fail);have a4:fu w ((w.alloc (F #[J Z x.li,V x.pu,G A0 x.fL.length c0,G A1 x.Expr.length c1] 99)).alloc (F #[J Z 0,V ⟨#[]⟩,G C 0 0,G C 0 0] 99)):=gG;have eb:((w.alloc (F #[J Z x.li,V x.pu,G A0 x.fL.length c0,G A1 x.Expr.length c1] 99)).alloc (F #[J Z 0,V ⟨#[]⟩,G C 0 0,G C 0 0] 99)).heap[w.heap.size]?=D (F #[J Z x.li,V x.pu,G A0 x.fL.length c0,G A1 x.Expr.length c1] 99 (0,0)):=zj (Re w _) gF;have er:((w.alloc (F #[J Z x.li,V x.pu,G A0 x.fL.length c0,G A1 x.Expr.length c1] 99)).alloc (F #[J Z 0,V ⟨#[]⟩,G C 0 0,G C 0 0] 99)).heap[w.heap.size+1]?=D (F #[J Z 0,V ⟨#[]⟩,G C 0 0,G C 0 0] 99 (0,0)):=by have h:=Re (w.alloc (F #[J Z x.li,V x.pu,G A0 x.fL.length c0,G A1 x.Expr.length c1] 99)) (F #[J Z 0,V ⟨#[]⟩,G C 0 0,G C 0 0] 99);rw[Rz] at h;exact h
 have d2:=Ty.up _ h2 a4;have d3:=Ty.up _ h3 a4;obtain⟨g,hg⟩:∃ g,w.heap.size=g:=⟨_,rfl⟩
 rw[hg] at eb er |-;generalize ((w.alloc _).alloc _)=Y at a4 eb er d2 d3 |-;obtain⟨y0,y1,y2,y3,_,yl⟩:=iL eb;have zl:=(iL er).2.2.2.2.2;clear h2 h3;refine zX (fun w'=>Rb w' ⟨g,0,C⟩=D (J Z x.li)/\Rb w' ⟨g,1,C⟩=D (V x.pu)/\Rb w' ⟨g,2,C⟩=D (G A0 x.fL.length c0)/\Rb w' ⟨g,3,C⟩=D (G A1 x.Expr.length c1)) 12 Fs ⟨zc y0,zc y1,zc y2,zc y3⟩ (fun hH=>?_);have HJ:=J3.start (T:=iI) (Q5:=jf) (e:=9) (f:=160) er;have HJ:=HJ.fy ((fu.refl _).drew);generalize hYd:Y.drew=Wx at HJ hH |-;clear hYd;refine .tq 0 [12] hH ?_;refine .tq 1 [12] hH ?_;refine .tq 2 [12] hH ?_;refine .tq 3 [12] hH ?_;refine .tq 5 [12] hH ?_;refine .tq 6 [12] hH ?_;refine .tq 8 [12] hH ?_;refine .tq 9 [12] hH ?_;refine fA.gL (i:=4) Fs rfl (fun K hK=>?_)
 ·go_simp
  have HJ:=HJ.lk;refine hK.out _ _ ⟨HJ.cell y0,HJ.cell y1,HJ.cell y2,HJ.cell y3⟩ ?_;clear hK;generalize Su _ (F #[] 9)=Wx at HJ |-
  try simp only[lay]
  refine fA.gL (i:=7) Fs rfl (fun K hK=>?_)
  ·refine zR (L:=x.fL.length) rfl (.tmp 7) (.tmp 9) tG lA HJ.ha (Ty.up _ d2 HJ.hg) rfl rfl rfl (RF _).symm K9 K9 ?_
   intro B1 d1 W1 S1 a8 hH hS;rw[RY] at hH;have HJ:=HJ.oM a8 hH hS;refine hK.out _ _ ⟨HJ.cell y0,HJ.cell y1,HJ.cell y2,HJ.cell y3⟩ ?_;clear hK a8 hH hS
   try simp only[lay]
   refine fA.gL (i:=10) Fs rfl (fun K hK=>?_)
   ·go_simp
    go_at_call 215
    with_reducible refine(LX (Ty.up _ d3 HJ.hg) hl3).mono ?_
    rintro e v ⟨A8,c8,S8,rfl,a5,a6,a7⟩;have HJ:=HJ.xO a7 a5 a6;refine hK.out _ _ ⟨HJ.cell y0,HJ.cell y1,HJ.cell y2,HJ.cell y3⟩ ?_;clear hK a5 a6 a7
    try simp only[lay]
    refine .tq 11 [12] ⟨HJ.cell y0,HJ.cell y1,HJ.cell y2,HJ.cell y3⟩ ?_;obtain⟨a0,a1,a2,a3,af,al⟩:=iL HJ.ho;refine fA.last Fs rfl Fs (fun K hK=>?_);go_simp;refine hK.out _ _ ?_;clear hK
    try simp only[lay]
    have h2:=wM HJ.ho (J Z x.li) (V x.pu) (G B1 x.fL.length d1) (G A8 x.Expr.length c8);obtain⟨r0,r1,r2,r3,_,_⟩:=iL h2.1;have hA:=HJ.ha.fJ h2.2 (fun b hb hm=>HJ.nt (by simp at hm;exact hm ▸ hb));have hB:=HJ.hb.fJ h2.2 (fun b hb hm=>HJ.sB (by simp at hm;exact hm ▸ hb));go_wp2_with(fail);exact Rj (v:=.agg #[J Z x.li,V x.pu,G B1 x.fL.length d1,G A8 x.Expr.length c8]) (by simp[Rv,results208,go_sem,r0,r1,r2,r3]) rfl ⟨_,_,_,_,_,rfl,Dr p0 p1 hA hB HJ.sA,fun b hb=>(Rr.1 hb).elim (fun h=>by have:=HJ.la b h;have:=a4.size;omega) (fun h=>by have:=HJ.lb b h;have:=a4.size;omega),h2.2.fy (a4.trans HJ.hg) (fun b hb=>by simp at hb;omega)⟩
section
variable {α:Type} {T:Ty α} {e:R5} {P:Program} {t ty:R5} {Ti:Nat}
theorem JG (hE:hU P t e T Ti){W:U}{S:Q Nat}{A:X RJ}{n c:Nat}{xs:Q α}(h:Has (T.sl e) W [G A n c] xs S)
  {A2:X RJ} {m c2:Nat} {ys:Q α} {Sy:Q Nat} (hy:Has (T.sl e) W [G A2 m c2] ys Sy) (hd:∀ b∈S,b∉Sy)
  {L:Nat} (hL:L=n+m) (hb:L*Ti<=140737488355328) (h63:L<=9223372036854775807) :
  ∃ A' c'' W' S',(Tk #[t,t] ty #[G A n c,G A2 m c2]).run P W=.ok (G A' L c'') W'/\fx S W W'/\Has (T.sl e) W' [G A' L c''] (xs++ys) S'/\∀ b∈S',b∈S∨b∈Sy∨W.heap.size<=b:=by
 obtain⟨⟨A3,c3,a5,S3,hv,a8,a3,a6⟩,hN⟩:=hy;injection hv with hv _
 injection hv with hA hn hc
 subst hA hn hc a6;rw[RM] at hN;obtain⟨a7,a1⟩:=a8;rcases a1 with⟨hv,hn⟩ | ⟨g,aa,a4,hv,_,hg,ae,ab,ac,a2⟩
 ·injection hv with hA _ hc
  subst hA hc;have a9:ys = []:=Uh (by omega);subst a9;subst hL;exact⟨A,c,W,S,DS hE h _,fx.refl _ _,by simpa using h,fun b hb=>.inl hb⟩
 ·injection hv with hA _ hc
  subst hA hc
  have a0:∀(j:Nat) (u:Value),a5[j]?=D u->W.cell? (Addr.add ⟨g,0,C⟩ j)=D u:=by
   intro j u hu;rw[Uk,RF,Sw W g j a4 e (0,0) hg];rw[<-a2,Tc] at hu;split at hu
   ·simpa using hu
   ·cases hu
  obtain⟨A',c'',W',S',k1,k2,k3,k4⟩:=xT (P:=P) (ty:=ty) hE h (ad:=⟨g,0,C⟩) a3 rfl a0 hN.2.1 (fun b hb hm=>hd b hb (RK _ hm)) hL hb h63;exact⟨A',c'',W',S',k1,k2,k3,fun b hb=>(k4 b hb).elim .inl (fun h=>h.elim (fun h=>.inr (.inl (RK _ h))) (fun h=>.inr (.inr h)))⟩
end
section
variable {α:Type} {T:Ty α} {e:R5} {P:Program} {t:R5} {Ti:Nat} {ops:Array Oper} {rest:Q Oper} {o:Oper} {a:Act} {Q8:Exit->Act->U->Prop} {K:Act->U->Prop}
theorem yV (hgd:o.guard=C)(s x:Operand)(hE:hU P t e T Ti){W:U}{S:Q Nat}{A:X RJ}{n c:Nat}{xs:Q α}(h:Has (T.sl e) W [G A n c] xs S)
  {A2:X RJ} {m c2:Nat} {ys:Q α} {Sy:Q Nat} (hy:Has (T.sl e) W [G A2 m c2] ys Sy) (hd:∀ b∈S,b∉Sy)
  (ho:o.op=.call { callee:=.builtin .append,args:=#[s,x],argTypes:=#[t,t] }) (hs:a.eval s=G A n c) (hx:a.eval x=G A2 m c2)
  {L:Nat} (hL:L=n+m) (hb:L*Ti<=140737488355328) (h63:L<=9223372036854775807)
  (hK:∀ A' c'' W' S',fx S W W'->Has (T.sl e) W' [G A' L c''] (xs++ys) S'->(∀ b∈S',b∈S∨b∈Sy∨W.heap.size<=b)->wpList P ops Q8 rest (a.put o.dst (G A' L c'')) W'):wpList P ops Q8 (o::rest) a W:=
 US hgd fun K hKK=>by
  obtain⟨A',c'',W',S',a0,a2,hF,a1⟩:=JG (P:=P) (ty:=o.type) hE h hy hd hL hb h63;exact wW s x ho hs hx a0 (hKK _ _ (hK A' c'' W' S' a2 hF a1))
end
theorem tC {nm:N} {B:X RJ} {d:Nat} {o:Q gB} (hk:fE kd)(hn:nm.size<=9223372036854775807)(hH:Has (jf.sl 160) W [G B o.length d] o S):Has zQ W [J Z kd,V nm,G C 0 0,G B o.length d] ⟨kd,nm,[],o⟩ S:=by
 have h:=yx (w:=W) (x:=⟨kd,nm,[],o⟩) C 0 [] B d S hk hn (Has.nil iI 9 W).1 hH.1;rw[RY] at h;exact⟨h,hH.2⟩
theorem yd (hk:fE kd):Has zQ W [J Z kd,V { data:=#[] },G C 0 0,G C 0 0] ⟨kd,{ data:=#[] },[],[]⟩ []:=tC (nm:={ data:=#[] }) (o:=[]) hk qo (Has.nil jf 160 W)
structure jJ (W:U)(k gb:Nat)(A0:X RJ)(c0:Nat)(vars:Q N)(A1:X RJ)(c1:Nat)(names:Q N)(A2:X RJ)(c2:Nat)(ars:Q Int):Prop where
 iX:W.heap[gb]?=D (F #[.pointer (D ⟨k,0,C⟩),G A0 vars.length c0,G A1 names.length c1,G A2 ars.length c2] 219 (0,0))
 nP:lz W k A0 c0 vars A1 c1 names A2 c2 ars
 ne:gb≠k
 some_:0<vars.length
section
variable {k gb:Nat} {A0:X RJ} {c0:Nat} {vars:Q N} {A1:X RJ} {c1:Nat} {names:Q N} {A2:X RJ} {c2:Nat} {ars:Q Int}
theorem jJ.only {W W':U}(h:jJ W k gb A0 c0 vars A1 c1 names A2 c2 ars)(hs:fx [k] W W'):jJ W' k gb A0 c0 vars A1 c1 names A2 c2 ars:=
 ⟨(hs.block gb ((blt h.iX)) (by simpa using h.ne)).trans h.iX,h.nP.only hs,h.ne,h.some_⟩
theorem jJ.fy (h:jJ W k gb A0 c0 vars A1 c1 names A2 c2 ars)(hg:fu W W'):jJ W' k gb A0 c0 vars A1 c1 names A2 c2 ars:=h.only (hg.only _)
theorem zej (hn:n<=6){m:Int}(hm:m=(n:Int))(hC:iO w W k)(hB:jJ W k gb A0 c0 vars A1 c1 names A2 c2 ars) :
  RD prog 157 #[.pointer (D ⟨gb,0,C⟩),J Z m] W (pw w W k (ns n)):=by
 subst hm;obtain⟨b0,b1,b2,b3,bf,bl⟩:=iL hB.iX;go_enter func157,ntmps157;go_upto_region 1 with(fail);go_region_held3 (fun w'=>Rb w' ⟨gb,0,C⟩=D (.pointer (D ⟨k,0,C⟩))/\Rb w' ⟨gb,1,C⟩=D (G A0 vars.length c0)/\Rb w' ⟨gb,2,C⟩=D (G A1 names.length c1)/\Rb w' ⟨gb,3,C⟩=D (G A2 ars.length c2)) ((repeat' apply Rf) <;> ((repeat (first | with_reducible assumption | with_reducible refine zd ?_ _ _ | with_reducible refine zo ?_ _ | with_reducible refine zc ?_ | with_reducible refine mC ?_ _));done)) (first | (go_at_call 187;(with_reducible refine(zqN n hn n rfl (hC.more gF) (hB.nP.fy gF)).mono ?_);rintro e W4 ⟨B4,d4,o4,S4,rfl,a4,a2,a1,a3,a0⟩;obtain⟨b0,b1,b2,b3,bf,bl⟩:=iL ((hB.fy gF).only a1).iX))
 all_goals go_wp2_with(fail)
 all_goals go_ret
 all_goals exact⟨B4,d4,o4,S4,rfl,a4,a2,(fu.only gF _).trans a1,a3,fun b hb=>by have:=a0 b hb;(try simp at this);omega⟩
end
end Go.Proofs.YthgbglbaemelhaaGreat
