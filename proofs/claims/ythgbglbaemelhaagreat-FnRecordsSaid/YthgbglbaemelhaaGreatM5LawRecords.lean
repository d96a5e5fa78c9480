/-
  PART.
-/
import Derived.Test.YthgbglbaemelhaaGreatM4LawRecords
set_option linter.unusedVariables false
set_option linter.unusedSimpArgs false
set_option maxRecDepth 100000
set_option maxHeartbeats 8000000
namespace Go.Proofs.YthgbglbaemelhaaGreat
open Value renaming slice->J,int->C,bool->X,string->Q
open IntKind renaming i64->Z,wrap->Vl
open Option renaming none->I,some->F,map_some->Xp
open Obj renaming cells->U
open Bool renaming false->M,true->H
open Go renaming World->V,results->VF,Calls->VK,Addr->VQ,TypeId->Wl,Ending->Z9,yielded->Xb
open World renaming cell?->Vg,alloc->WJ
open RowKit renaming intOf->Wj
open _root_.Nat renaming add_zero->Wk
open List renaming nil_append->Wo
open Region renaming wanted->V6,ready->Wv,noSelect->XV,Mode->XY,free->YI
open Tryz
open Go.RowKit
variable {A A0 A1:N VQ}{S:D Nat}{W w w':V}{a b t:iq}{c c0 c1 g n:Nat}{e:Wl}{l xs:D iq}{o:Obj}{p:Int}{r:jk}{x:fB}
theorem Rf {x q:gL} (h:decide (x.gJ<q.gJ)=M):(tA q x=H/\(q.gJ == x.gJ)=H/\(x.gJ == q.gJ)=H/\decide (x.fA<q.iD)=H/\x.fA<q.iD)∨(tA q x=M/\(q.gJ == x.gJ)=H/\(x.gJ == q.gJ)=H/\decide (x.fA<q.iD)=M/\¬ x.fA<q.iD)∨(tA q x=M/\(q.gJ == x.gJ)=M/\(x.gJ == q.gJ)=M/\True/\True):=by
 by_cases a2:q.gJ=x.gJ
 ·have b2:(q.gJ == x.gJ)=H:=V4.2 a2
  have c2:(x.gJ == q.gJ)=H:=V4.2 a2.symm;by_cases a3:x.fA<q.iD
  ·exact .inl ⟨by unfold tA;rw[h,b2,Vv a3];rfl,b2,c2,Vv a3,a3⟩
  ·exact .inr (.inl ⟨by unfold tA;rw[h,b2,Vp a3];rfl,b2,c2,Vp a3,a3⟩)
 ·have b2:(q.gJ == x.gJ)=M:=Vw.2 a2
  have c2:(x.gJ == q.gJ)=M:=Vw.2 (fun g=>a2 g.symm);exact .inr (.inr ⟨by unfold tA;rw[h,b2];rfl,b2,c2,trivial,trivial⟩)
theorem np {g:Prop} (f:g:=by
  go_wp2_with(fail)
  go_ret
  exact⟨zp (by rw[<-hE.out,yr HX.out,HR.out];rfl),hG0.trans gG⟩):g:=f
theorem ZS {g:Prop} (f:g:=by
  go_wp2_with(first | (go_at_call 43;(with_reducible refine(iU x.gJ 0 2 _).mono ?_);rw[HB4.out];rintro e w1 ⟨rfl,rfl⟩) | (go_at_call 43;(with_reducible refine(iU x.fZ 0 59 _).mono ?_);rw[HB5.out];rintro e w1 ⟨rfl,rfl⟩) | (go_at_call 133;(with_reducible refine(tg x.fJ _ bn).mono ?_);rw[HB6.out];rintro e w1 ⟨rfl,rfl⟩))
  go_ret
  exact⟨zp (by rw[<-hE.out,yr HX.out,HR.out];rfl),hG0.trans gG⟩):g:=f
theorem ZX {g:Prop} (f:g:=by
  go_wp2_with(first | (go_at_call 43;(with_reducible refine(iU x.gJ 0 2 _).mono ?_);rw[HB4.out];rintro e w1 ⟨rfl,rfl⟩) | (go_at_call 43;(with_reducible refine(iU x.fZ 0 59 _).mono ?_);rw[HB5.out];rintro e w1 ⟨rfl,rfl⟩))
  go_ret
  exact⟨zp (by rw[<-hE.out,yr HX.out,HR.out];rfl),hG0.trans gG⟩):g:=f
theorem xx {g:Prop} (f:g:=by
  go_wp2_with(first | (go_at_call 43;refine(iU x.gJ 0 2 _).mono ?_;rw[HB4.out];rintro e w1 ⟨rfl,rfl⟩))
  go_ret
  exact⟨zp (by rw[<-hE.out,yr HX.out,HR.out];rfl),hG0.trans gG⟩):g:=f
theorem tT {g:Prop} (f:g:=by
  go_wp2_with(fail)
  go_ret
  exact⟨zp (by rw[<-hE.out,yr HX.out,<-HZ.out];rfl),hGv.trans gG⟩):g:=f
theorem zdq {rs:D gL} (hx:(mc.sl 214).R w w.heap.size [J A rs.length c] rs) :
  VK prog 116 #[J A rs.length c] w fun e w'=>e=.returned (X (yA rs))/\fy w w':=by
 obtain⟨_,_,ay,h1,h2⟩:=mQ hx;injection ay with e1 e2 e3
 subst e1 e3;clear e2;go_enter func116,ntmps116;go_wp2;go_loopw [3] (fun a wr=>∃ k:Nat,a=C Z k/\k<=rs.length/\Hid (fy w wr)/\Hid (yN rs k (rs.drop k)=yA rs)) (fun a _=>rs.length-(Wj a).toNat)
 case atStart=>exact⟨0,rfl,Vu _,fk (fy.refl _),fk rfl⟩
 case round=>
  obtain⟨k,rfl,hk,hG,hE⟩:=hrel;obtain⟨os,d,rfl⟩:=hG.out;clear hG;by_cases hlt:k<rs.length
  ·obtain⟨g,aI,x,hA,aB,au,x0,x1,x2,x3,x4,bs,be,bl,bi,bn⟩:=Di hx hlt
   have HX:=fk au;have x0:=zd x0 os d;have x1:=zd x1 os d;have x2:=zd x2 os d;have x3:=zd x3 os d;have x4:=zd x4 os d;have aw:(k:Int)<(rs.length:Int):=fh;clear au;subst hA;cases k with
   | zero=>
    simp only[Y0,Wk] at x0 x1 x2 x3 x4;have hz:¬ ((0:Int)<((0:Nat):Int)):=fh;go_upto_region 5 with(fail);have hG0:fy w ((fH w os d).alloc (U #[C Z x.fA,C Z x.iD,C Z x.gJ,C Z x.fZ,Q x.fJ] 214)):=gG;have eb:=Vj (fH w os d) (U #[C Z x.fA,C Z x.iD,C Z x.gJ,C Z x.fZ,Q x.fJ] 214);obtain⟨gb,a2⟩:∃ g,w.heap.size+os.size=g:=⟨_,rfl⟩
    rw[show (fH w os d).heap.size=w.heap.size+os.size from gm,a2] at eb
    try rw[a2]
    clear x0 x1 x2 x3 x4;generalize (fH w os d).alloc _=Y at hG0 eb |-;obtain⟨z0,z1,z2,z3,z4,zf,zl⟩:=jO eb;by_cases d1:x.fA<0
    ·have ak:decide (x.fA<0)=H:=Vv d1
     have HL:=fk (show lF x=M from by unfold lF;rw[show decide (0<=x.fA)=M from Vp fh];simp);have HR:=fk (show m9 rs 0 x=M from sx HL.out);exact np
    ·have ak:decide (x.fA<0)=M:=Vp d1
     have c1:decide (0<=x.fA)=H:=Vv fh;by_cases d2:x.iD<=x.fA
     ·have al:decide (x.iD<=x.fA)=H:=Vv d2
      have HL:=fk (show lF x=M from by unfold lF;rw[show decide (x.fA<x.iD)=M from Vp fh];simp);have HR:=fk (show m9 rs 0 x=M from sx HL.out);exact np
     ·have al:decide (x.iD<=x.fA)=M:=Vp d2
      have c2:decide (x.fA<x.iD)=H:=Vv fh;by_cases d3:1000000<x.iD
      ·have am:decide (1000000<x.iD)=H:=Vv d3
       have HL:=fk (show lF x=M from by unfold lF;rw[show decide (x.iD<=1000000)=M from Vp fh];simp);have HR:=fk (show m9 rs 0 x=M from sx HL.out);exact np
      ·have am:decide (1000000<x.iD)=M:=Vp d3
       have c3:decide (x.iD<=1000000)=H:=Vv fh;obtain⟨b4,ab⟩:∃ b,gE x.gJ 0 2=b:=⟨_,rfl⟩
       have HB4:=fk ab;clear ab;cases b4 with
       | false=>
        have HL:=fk (show lF x=M from by unfold lF;rw[HB4.out];simp);have HR:=fk (show m9 rs 0 x=M from sx HL.out);exact xx
       | true=>
        obtain⟨b5,ac⟩:∃ b,gE x.fZ 0 59=b:=⟨_,rfl⟩
        have HB5:=fk ac;clear ac;cases b5 with
        | false=>
         have HL:=fk (show lF x=M from by unfold lF;rw[HB5.out];simp);have HR:=fk (show m9 rs 0 x=M from sx HL.out);exact ZX
        | true=>
         obtain⟨b6,ad⟩:∃ b,mN x.fJ=b:=⟨_,rfl⟩
         have HB6:=fk ad;clear ad;cases b6 with
         | false=>
          have HL:=fk (show lF x=M from by unfold lF;rw[HB6.out];simp);have HR:=fk (show m9 rs 0 x=M from sx HL.out);exact ZS
         | true=>
          have HL:=fk (show lF x=H from by unfold lF;rw[c1,c2,c3,HB4.out,HB5.out,HB6.out];rfl);have ax:=Kn HL.out;go_wp2_with(first | (go_at_call 43;(with_reducible refine(iU x.gJ 0 2 _).mono ?_);rw[HB4.out];rintro e w1 ⟨rfl,rfl⟩) | (go_at_call 43;(with_reducible refine(iU x.fZ 0 59 _).mono ?_);rw[HB5.out];rintro e w1 ⟨rfl,rfl⟩) | (go_at_call 133;(with_reducible refine(tg x.fJ _ bn).mono ?_);rw[HB6.out];rintro e w1 ⟨rfl,rfl⟩));go_quiet (fail);have hGv:=hG0;have HK:=fk (Re (all:=rs) HL.out);obtain⟨bv,ai⟩:∃ bv,(x.gJ == 0)=bv:=⟨_,rfl⟩
          rw[ai] at HK;go_wp2_with(fail);go_loopw [5,6] (fun v a wr=>∃(i:Nat) (b:Bool),v=X b/\a=C Z i/\i<=0/\Hid (fy Y wr)/\Hid (uu x b ((rs.take 0).drop i)=m9 rs 0 x)) (fun _ a _=>0-(Wj a).toNat)
          case atStart=>exact⟨0,bv,rfl,rfl,Vu _,fk gG,fk (by rw[HK.out];rfl)⟩
          case round=>
           obtain⟨i,b,rfl,rfl,hi,aa,a4⟩:=hrel;obtain⟨a0,d2,rfl⟩:=aa.out;clear aa;have z0:=zd z0 a0 d2;have z1:=zd z1 a0 d2;have z2:=zd z2 a0 d2;have z3:=zd z3 a0 d2;have z4:=zd z4 a0 d2;by_cases hlt2:i<0
           ·exact absurd hlt2 (YZ _)
           ·have aq:¬ ((i:Int)<((0:Nat):Int)):=fh
            have a5:=a4.out;rw[IA fh] at a5;have HZ:=fk a5;clear a5;cases b with
            | true=>
             go_wp2_with(fail);go_roundw;exact⟨0+1,io,fh,fk (hGv.trans gG),fk (by rw[<-hE.out,yr HX.out,<-HZ.out];rfl)⟩;exact iC
            | false=>
             exact tT
   | succ j=>
    obtain⟨gq,aA,q,ao,_,ar,u0,u1,u2,u3,u4,_⟩:=Di hx (k:=j) fh;injection ao with ao
    injection ao with hq1 hq2
    subst hq1 hq2;have HQ:=fk ar;clear ar u0 u3 u4;have hz:(0:Int)<(j:Int)+1:=fh;have aH:Vl Z ((j:Int)+1-1)=(j:Int):=by rw[show (j:Int)+1-1=(j:Int) from fh];exact iw
    have aG:Vl Z (j:Int)=(j:Int):=iw;have aD:(0:Int)<=(j:Int):=fh;have aE:(j:Int)<(rs.length:Int):=fh;go_upto_region 5 with(fail);have hG0:fy w ((fH w os d).alloc (U #[C Z x.fA,C Z x.iD,C Z x.gJ,C Z x.fZ,Q x.fJ] 214)):=gG;have eb:=Vj (fH w os d) (U #[C Z x.fA,C Z x.iD,C Z x.gJ,C Z x.fZ,Q x.fJ] 214);obtain⟨gb,a2⟩:∃ g,w.heap.size+os.size=g:=⟨_,rfl⟩
    rw[show (fH w os d).heap.size=w.heap.size+os.size from gm,a2] at eb
    try rw[a2]
    clear x0 x1 x2 x3 x4;generalize (fH w os d).alloc _=Y at hG0 eb |-;obtain⟨z0,z1,z2,z3,z4,zf,zl⟩:=jO eb;have u1:=za hG0 u1;have u2:=za hG0 u2;by_cases d1:x.fA<0
    ·have ak:decide (x.fA<0)=H:=Vv d1
     have HL:=fk (show lF x=M from by unfold lF;rw[show decide (0<=x.fA)=M from Vp fh];simp);have HR:=fk (show m9 rs (j+1) x=M from sx HL.out);exact np
    ·have ak:decide (x.fA<0)=M:=Vp d1
     have c1:decide (0<=x.fA)=H:=Vv fh;by_cases d2:x.iD<=x.fA
     ·have al:decide (x.iD<=x.fA)=H:=Vv d2
      have HL:=fk (show lF x=M from by unfold lF;rw[show decide (x.fA<x.iD)=M from Vp fh];simp);have HR:=fk (show m9 rs (j+1) x=M from sx HL.out);exact np
     ·have al:decide (x.iD<=x.fA)=M:=Vp d2
      have c2:decide (x.fA<x.iD)=H:=Vv fh;by_cases d3:1000000<x.iD
      ·have am:decide (1000000<x.iD)=H:=Vv d3
       have HL:=fk (show lF x=M from by unfold lF;rw[show decide (x.iD<=1000000)=M from Vp fh];simp);have HR:=fk (show m9 rs (j+1) x=M from sx HL.out);exact np
      ·have am:decide (1000000<x.iD)=M:=Vp d3
       have c3:decide (x.iD<=1000000)=H:=Vv fh;obtain⟨b4,ab⟩:∃ b,gE x.gJ 0 2=b:=⟨_,rfl⟩
       have HB4:=fk ab;clear ab;cases b4 with
       | false=>
        have HL:=fk (show lF x=M from by unfold lF;rw[HB4.out];simp);have HR:=fk (show m9 rs (j+1) x=M from sx HL.out);exact xx
       | true=>
        obtain⟨b5,ac⟩:∃ b,gE x.fZ 0 59=b:=⟨_,rfl⟩
        have HB5:=fk ac;clear ac;cases b5 with
        | false=>
         have HL:=fk (show lF x=M from by unfold lF;rw[HB5.out];simp);have HR:=fk (show m9 rs (j+1) x=M from sx HL.out);exact ZX
        | true=>
         obtain⟨b6,ad⟩:∃ b,mN x.fJ=b:=⟨_,rfl⟩
         have HB6:=fk ad;clear ad;cases b6 with
         | false=>
          have HL:=fk (show lF x=M from by unfold lF;rw[HB6.out];simp);have HR:=fk (show m9 rs (j+1) x=M from sx HL.out);exact ZS
         | true=>
          have HL:=fk (show lF x=H from by unfold lF;rw[c1,c2,c3,HB4.out,HB5.out,HB6.out];rfl);have ax:=Kn HL.out;by_cases a1:x.gJ<q.gJ
          ·have ae:decide (x.gJ<q.gJ)=H:=Vv a1
           have HR:=fk (show m9 rs (j+1) x=M from Ko HQ.out (by unfold tA;rw[ae];rfl));go_wp2_with(first | (go_at_call 43;(with_reducible refine(iU x.gJ 0 2 _).mono ?_);rw[HB4.out];rintro e w1 ⟨rfl,rfl⟩) | (go_at_call 43;(with_reducible refine(iU x.fZ 0 59 _).mono ?_);rw[HB5.out];rintro e w1 ⟨rfl,rfl⟩) | (go_at_call 133;(with_reducible refine(tg x.fJ _ bn).mono ?_);rw[HB6.out];rintro e w1 ⟨rfl,rfl⟩));go_quiet (fail);exact np
          ·have ae:decide (x.gJ<q.gJ)=M:=Vp a1
           rcases Rf ae with⟨hB,ag,ap,ah,a3⟩ | ⟨hB,ag,ap,ah,a3⟩ | ⟨hB,ag,ap,ah,a3⟩
           ·clear hB
            have HR:=fk (show m9 rs (j+1) x=M from Ko HQ.out (by unfold tA;rw[ae,ag,ah];rfl));go_wp2_with(first | (go_at_call 43;(with_reducible refine(iU x.gJ 0 2 _).mono ?_);rw[HB4.out];rintro e w1 ⟨rfl,rfl⟩) | (go_at_call 43;(with_reducible refine(iU x.fZ 0 59 _).mono ?_);rw[HB5.out];rintro e w1 ⟨rfl,rfl⟩) | (go_at_call 133;(with_reducible refine(tg x.fJ _ bn).mono ?_);rw[HB6.out];rintro e w1 ⟨rfl,rfl⟩));go_quiet (fail);exact np
           all_goals
            have HB:=fk hB
            clear hB
            go_wp2_with(first | (go_at_call 43;(with_reducible refine(iU x.gJ 0 2 _).mono ?_);rw[HB4.out];rintro e w1 ⟨rfl,rfl⟩) | (go_at_call 43;(with_reducible refine(iU x.fZ 0 59 _).mono ?_);rw[HB5.out];rintro e w1 ⟨rfl,rfl⟩) | (go_at_call 133;(with_reducible refine(tg x.fJ _ bn).mono ?_);rw[HB6.out];rintro e w1 ⟨rfl,rfl⟩))
            go_quiet (fail)
            have hGv:=hG0
            have HK:=fk (Rd HL.out HQ.out HB.out)
            obtain⟨bv,ai⟩:∃ bv,(x.gJ == 0)=bv:=⟨_,rfl⟩
            rw[ai] at HK
            go_wp2_with(fail)
            go_loopw [5,6] (fun v a wr=>∃(i:Nat) (b:Bool),v=X b/\a=C Z i/\i<=(j+1)/\Hid (fy Y wr)/\Hid (uu x b ((rs.take (j+1)).drop i)=m9 rs (j+1) x)) (fun _ a _=>(j+1)-(Wj a).toNat)
            case atStart=>exact⟨0,bv,rfl,rfl,Vu _,fk gG,fk (by rw[HK.out];rfl)⟩
            case round=>
             obtain⟨i,b,rfl,rfl,hi,aa,a4⟩:=hrel;obtain⟨a0,d2,rfl⟩:=aa.out;clear aa;have z0:=zd z0 a0 d2;have z1:=zd z1 a0 d2;have z2:=zd z2 a0 d2;have z3:=zd z3 a0 d2;have z4:=zd z4 a0 d2;by_cases hlt2:i<(j+1)
             ·obtain⟨g',az,y,an,_,av,m0,m1,m2,m3,m4,_,_,_,_,_⟩:=Di hx (k:=i) fh
              injection an with an
              injection an with q1 q2
              subst q1 q2;have m0:=zd (za hGv m0) a0 d2;have m1:=zd (za hGv m1) a0 d2;have m2:=zd (za hGv m2) a0 d2;have m3:=zd (za hGv m3) a0 d2;have m4:=zd (za hGv m4) a0 d2;have HY:=fk av;have aq:(i:Int)<((j:Int)+1):=fh;have aC:(i:Int)<(rs.length:Int):=fh;have aF:Vl Z (x.gJ-1)=x.gJ-1:=iw;clear av;cases b with
              | true=>
               go_wp2_with(fail);go_quiet (fail);go_wp2_with(fail);go_roundw;exact⟨i+1,H,rfl,io,fh,fk gG,fk (by rw[<-a4.out,BE HY.out hlt2];rfl)⟩;exact iC
              | false=>
               by_cases a6:y.gJ=x.gJ-1
               ·have a9:(y.gJ == x.gJ-1)=H:=by simp[a6]
                clear a6;by_cases a7:y.fA<=x.fA
                ·have af:decide (y.fA<=x.fA)=H:=Vv a7
                 by_cases a8:x.iD<=y.iD
                 ·have aj:decide (x.iD<=y.iD)=H:=Vv a8
                  go_wp2_with(fail);go_quiet (fail);go_wp2_with(fail);go_roundw;exact⟨i+1,H,rfl,io,fh,fk gG,fk (by rw[<-a4.out,BE HY.out hlt2,show tI x y=H from by unfold tI;rw[a9,af,aj];rfl];rfl)⟩;exact iC
                 ·have aj:decide (x.iD<=y.iD)=M:=Vp a8
                  go_wp2_with(fail);go_quiet (fail);go_wp2_with(fail);go_roundw;exact⟨i+1,M,rfl,io,fh,fk gG,fk (by rw[<-a4.out,BE HY.out hlt2,show tI x y=M from by unfold tI;rw[a9,af,aj];rfl];rfl)⟩;exact iC
                ·have af:decide (y.fA<=x.fA)=M:=Vp a7
                 go_wp2_with(fail);go_quiet (fail);go_wp2_with(fail);go_roundw;exact⟨i+1,M,rfl,io,fh,fk gG,fk (by rw[<-a4.out,BE HY.out hlt2,show tI x y=M from by unfold tI;rw[a9,af];rfl];rfl)⟩;exact iC
               ·have a9:(y.gJ == x.gJ-1)=M:=by simp[a6]
                clear a6;go_wp2_with(fail);go_quiet (fail);go_wp2_with(fail);go_roundw;exact⟨i+1,M,rfl,io,fh,fk gG,fk (by rw[<-a4.out,BE HY.out hlt2,show tI x y=M from by unfold tI;rw[a9];rfl];rfl)⟩;exact iC
             ·have aq:¬ ((i:Int)<((j:Int)+1)):=fh
              have a5:=a4.out;rw[IA fh] at a5;have HZ:=fk a5;clear a5;cases b with
              | true=>
               go_wp2_with(fail);go_roundw;exact⟨(j+1)+1,io,fh,fk (hGv.trans gG),fk (by rw[<-hE.out,yr HX.out,<-HZ.out];rfl)⟩;exact iC
              | false=>
               exact tT
  ·have aw:¬ ((k:Int)<(rs.length:Int)):=fh
   go_wp2_with(fail);go_ret;refine⟨zp ?_,gG⟩;rw[<-hE.out,show k=rs.length from fh,VW];rfl
theorem zN {a b:V} (h:fy a b){p:VQ}{v:Value}(hp:a.cell? p=F v):b.cell? p=F v:=by
 obtain⟨os,d,rfl⟩:=h;exact zd hp os d
def uA (rs:D jk)(k:Nat):Int:=match k with
 | 0=>-1
 | j+1=>(rs[j]?.map jk.fN).getD 0
theorem FQ:wh p r=H↔gE r.fN 0 1000000=H/\gE r.fZ 0 59=H/\p<r.fN:=by
 unfold wh;simp only[Vt,VD];exact Zp
theorem FY (h:¬ (gE r.fN 0 1000000=H/\gE r.fZ 0 59=H/\p<r.fN)):wh p r=M:=by
 cases hq:wh p r with
 | false=>rfl
 | true=>exact absurd (FQ.1 hq) h
theorem xn {g:Prop} (f:g:=by
  clear hx
  go_wp2_with(fail)
  go_quiet ((first | (go_at_call 43;with_reducible exact yI hb1 _ _) | (go_at_call 43;with_reducible exact yI hb2 _ _)))
  go_wp2_with(fail)
  go_ret
  exact⟨zp (by rw[<-hE.out,Bx HX.out,HR.out];rfl),gG⟩):g:=f
theorem zfV {rs:D jk} (hx:(nk.sl 216).R w w.heap.size [J A rs.length c] rs) :
  VK prog 115 #[J A rs.length c] w fun e w'=>e=.returned (X (sQ (-1) rs))/\fy w w':=by
 obtain⟨_,_,a8,h1,h2⟩:=mQ hx;injection a8 with e1 e2 e3
 subst e1 e3;clear e2;go_enter func115,ntmps115;go_wp2;go_loopw [3] (fun a wr=>∃ k:Nat,a=C Z k/\k<=rs.length/\Hid (fy w wr)/\Hid (sQ (uA rs k) (rs.drop k)=sQ (-1) rs)) (fun a _=>rs.length-(Wj a).toNat)
 case atStart=>exact⟨0,rfl,Vu _,fk (fy.refl _),fk rfl⟩
 case round=>
  obtain⟨k,rfl,hk,hG,hE⟩:=hrel;obtain⟨os,d,rfl⟩:=hG.out;clear hG;by_cases hlt:k<rs.length
  ·obtain⟨g,ad,r,hA,aa,a2,x0,x1,x2,bo,bl⟩:=Gf hx hlt
   have HX:=fk a2;have x0:=zd x0 os d;have x1:=zd x1 os d;have x2:=zd x2 os d;have a6:(k:Int)<(rs.length:Int):=fh;clear a2;subst hA;obtain⟨b1,hb1⟩:∃ b,gE r.fN 0 1000000=b:=⟨_,rfl⟩
   cases b1 with
   | false=>
    have HR:=fk (FY (p:=uA rs k) (r:=r) (by rw[hb1];simp));clear hx;go_wp2_with(fail);go_quiet ((first | (go_at_call 43;with_reducible exact yI hb1 _ _)));go_wp2_with(fail);go_ret;exact⟨zp (by rw[<-hE.out,Bx HX.out,HR.out];rfl),gG⟩
   | true=>
    obtain⟨b2,hb2⟩:∃ b,gE r.fZ 0 59=b:=⟨_,rfl⟩
    cases b2 with
    | false=>
     have HR:=fk (FY (p:=uA rs k) (r:=r) (by rw[hb2];simp));exact xn
    | true=>
     cases k with
     | zero=>
      simp only[Y0,Wk] at x0 x1 x2;have hz:¬ ((0:Int)<((0:Nat):Int)):=fh;have a1:uA rs 0 = -1:=rfl;have a5:=zr.1 hb1;have HR:=fk (FQ.2 (show gE r.fN 0 1000000=H/\gE r.fZ 0 59=H/\uA rs 0<r.fN from⟨hb1,hb2,fh⟩));go_wp2_with(fail);go_quiet ((first | (go_at_call 43;with_reducible exact yI hb1 _ _) | (go_at_call 43;with_reducible exact yI hb2 _ _)));go_wp2_with(fail);go_roundw;exact⟨0+1,io,fh,fk gG,fk (by rw[<-hE.out,Bx HX.out,HR.out];simp[uA,HX.out])⟩;exact iC
     | succ j=>
      obtain⟨gq,a9,q,a0,_,a7,u0,u1,u2,_,_⟩:=Gf hx (k:=j) fh;have u0:=zd u0 os d;injection a0 with a0
      injection a0 with hq1 hq2
      subst hq1 hq2;have a1:uA rs (j+1)=q.fN:=by show (rs[j]?.map jk.fN).getD 0=q.fN;rw[a7];rfl
      have hz:(0:Int)<(j:Int)+1:=fh;have ac:Vl Z ((j:Int)+1-1)=(j:Int):=by rw[show (j:Int)+1-1=(j:Int) from fh];exact iw
      have ab:(j:Int)<(rs.length:Int):=fh;by_cases a3:r.fN<=q.fN
      ·have a4:decide (r.fN<=q.fN)=H:=Vv a3
       have HR:=fk (FY (p:=uA rs (j+1)) (r:=r) (by rw[a1];intro h;omega));exact xn
      ·have a4:decide (r.fN<=q.fN)=M:=Vp a3
       have HR:=fk (FQ.2 (show gE r.fN 0 1000000=H/\gE r.fZ 0 59=H/\uA rs (j+1)<r.fN from⟨hb1,hb2,fh⟩));go_wp2_with(fail);go_quiet ((first | (go_at_call 43;with_reducible exact yI hb1 _ _) | (go_at_call 43;with_reducible exact yI hb2 _ _)));go_wp2_with(fail);go_roundw;exact⟨(j+1)+1,io,fh,fk gG,fk (by rw[<-hE.out,Bx HX.out,HR.out];simp[uA,HX.out])⟩;exact iC
  ·have a6:¬ ((k:Int)<(rs.length:Int)):=fh
   go_wp2_with(fail);go_ret;refine⟨zp ?_,gG⟩;rw[<-hE.out,show k=rs.length from fh,VW];rfl
theorem fG.on {L:D Nat} {v a b c:V} (h:fG L v a)(hg:fy a b)(hon:fG S b c)(hS:∀ k∈S,k∈L∨v.heap.size<=k):fG L v c:=by
 have k:=h.trans (hg.only L);exact⟨hon.os.trans k.os,hon.tape.trans k.tape,hon.output.trans k.output,VL k.size hon.size,fun i hi hn=>(hon.block i (Vn hi k.size) (fun hm=>(hS i hm).elim hn (fun h=>fh))).trans (k.block i hi hn)⟩
theorem TV {α:Type} {T:Ty α} {off:Nat} {xs:D α} (h:Has (T.sl e) W [J (F ⟨g,off,I⟩) n c] xs S):g∈S:=by
 obtain⟨⟨A',c',a0,S',h1,h2,h3,h4⟩,_⟩:=h;injection h1 with h1 _
 injection h1 with hA _ _
 subst hA h4;simp[lT]
def jd (xs:D iq)(w:V)(r:Z9)(w':V):Prop:=∃ A c S,r=.returned (J A xs.length c)/\Has (jY.sl 160) w' [J A xs.length c] xs S/\(∀ b∈S,w.heap.size<=b)/\fy w w'
theorem jd.mk {ys:D iq} (h:Has (jY.sl 160) w' [J A n c] ys S)(he:ys=xs)(hn:n=ys.length)(hS:∀ b∈S,w.heap.size<=b)(hg:fy w w'):jd xs w (.returned (J A n c)) w':=by
 subst he hn;exact⟨A,c,S,rfl,h,hS,hg⟩
theorem Ex.pP (e:Ex)(h:e.wf):0<e.fold.length/\e.fold.length<=e.size:=by
 obtain⟨e',h1,h2,h3⟩:=e.jf h;rw[<-h2,e'.ie];exact⟨e'.size_pos,h3⟩
theorem ig.pP (ks:ig)(h:ks.wf):ks.len<=ks.fold.length/\ks.fold.length<=ks.size:=by
 obtain⟨k',h1,h2,h3,h4⟩:=ks.jf h;rw[<-h3,k'.ie,<-h2];exact⟨k'.lW,h4⟩
theorem LC {W0:V} {B:Nat} (h:W.heap[g]?=F (U #[C Z t.fC,C Z t.iY,Q t.fJ] e (0,0)))(hR:jY.R W0 B [C Z t.fC,C Z t.iY,Q t.fJ] t):Has (jY.sl e) W [J (F ⟨g,0,I⟩) 1 1] [t] [g]:=
 ⟨qG (T:=jY) (xs:=[t]) h ⟨[C Z t.fC,C Z t.iY,Q t.fJ],[],[],[],rfl,rfl,rW hR W,rfl,rfl⟩ gm,gm⟩
theorem Sf {k a b Va:Int} (hk:2<=k/\k<=6)(ha:fQ a)(hb:fQ b)(h:kS (k+3) a b=Va)(w:V)(n:Nat):VK prog 142 #[C Z k,C Z a,C Z b] (w.drewN n) fun e w''=>e=.returned (C Z Va)/\∃ m,w''=w.drewN m:=
 (zgE hk ha hb).mono (by rintro e w' ⟨rfl,rfl⟩;exact⟨by rw[h],n,rfl⟩)
theorem Pr (c a b:Int):fQ (kS c a b):=by
 unfold kS;split
 ·exact AJ _
 ·split
  ·exact AJ _
  ·split
   ·exact AJ _
   ·split
    ·split <;> exact⟨gv,gv⟩
    ·split
     ·split <;> exact⟨gv,gv⟩
     ·exact⟨gv,gv⟩
theorem Qp (h:gE t.fC 2 6=M):qp t l=t::l:=by
 rcases CA t l with h1 | ⟨a,b,_,h2,_⟩
 ·exact h1
 ·rw[h] at h2;cases h2
theorem Qq (h:¬ l.length=2):qp t l=t::l:=by
 rcases CA t l with h1 | ⟨a,b,h2,_⟩
 ·exact h1
 ·rw[h2] at h;exact absurd rfl h
theorem Qr (h:¬ a.fC=0):qp t [a,b]=t::[a,b]:=by unfold qp;simp only;rw[Vo (fun hh=>h hh.2.1)]
theorem Qs (h:¬ b.fC=0):qp t [a,b]=t::[a,b]:=by unfold qp;simp only;rw[Vo (fun hh=>h hh.2.2.1)]
theorem Qt (h:gE (kS (t.fC+3) a.iY b.iY) 0 999=M):qp t [a,b]=t::[a,b]:=by unfold qp;simp only;rw[Vo (fun hh=>by rw[h] at hh;cases hh.2.2.2)]
theorem Qu (h0:gE t.fC 2 6=H)(h1:a.fC=0)(h2:b.fC=0)(h:gE (kS (t.fC+3) a.iY b.iY) 0 999=H):qp t [a,b] = [uw (kS (t.fC+3) a.iY b.iY)]:=by unfold qp;simp only;rw[Vs ⟨h0,h1,h2,h⟩]
theorem wV {g:Prop} (f:g:=by
  go_wp2_with(first | (go_at_call 43;refine(iU _ _ _ _).mono ?_;rw[HB.out];rintro e w1 ⟨rfl,rfl⟩))
  exact Vr (v:=J (F ⟨g7,o7,I⟩) (ys.length+1) c5) (by simp[VF,results209,go_sem]) rfl (jd.mk (hH.out.fH gF) (by rw[HY.out];exact(HF.out).symm) gm hS2 (hG.out.trans gF))):g:=f
theorem wX {g:Prop} (f:g:=by
  go_wp2_with(first | (go_at_call 43;refine(iU _ _ _ _).mono ?_;rw[HB.out];rintro e w1 ⟨rfl,rfl⟩))
  exact Vr (v:=J A5 (ys.length+1) c5) (by simp[VF,results209,go_sem]) rfl (jd.mk (hH.out.fH gF) (by rw[HY.out];exact(HF.out).symm) gm hS2 (hG.out.trans gF))):g:=f
theorem zya:∀(n:Nat)(e:Ex),e.size<=n->∀{xs:D iq}{a:Nat}{rs:D iq}{w:V}{A:N VQ}{c:Nat},(jY.sl 160).R w w.heap.size [J A xs.length c] xs->xs.length<=100000->e.wf->xs.drop a=e.flat++rs->
  VK prog 209 #[J A xs.length c,C Z a] w (jd e.fold w):=by
 intro n;induction n with
 | zero=>intro e he;have:=e.size_pos;omega
 | succ n ih=>
 intro e he xs a rs w A c hx aV hw hd;have hl:xs.length<=1099511627776:=fh
 match e,he,hw,hd with
 | .node t ks,he,hw,hd=>
 obtain⟨ak,hd1⟩:=Aw (show xs.drop a=t::(ks.flat++rs) from hd);have aN:a<xs.length:=(Vh.1 ak).1;obtain⟨g,b7,x,hA,aP,aa,x0,x1,x2,bk,bn,bs⟩:=vZ hx aN;obtain rfl:x=t:=by rw[ak] at aa;injection aa with aa;exact aa.symm
 clear ak aa
 have b4:ks.size<=xs.length:=by
  exact tS
 have aZ:=ks.pP hw.2.2;have b3:=ks.lW;have aU:ks.size<=n:=by simp only[Ex.size] at he;omega
 have aY:(a:Int)<(xs.length:Int):=fh;have aM:(0:Int)<=(a:Int):=fh;have ay:=fk hd1;have aC:Hid (jY.R w w.heap.size [C Z x.fC,C Z x.iY,Q x.fJ] x):=fk (uX bk bn bs);have au:=fy.refl w;clear hd1;subst hA;go_enter func209,ntmps209;go_wp2_with(first | (go_at_call 216;refine(zsX (t:=x) (ks:=ks) (rs:=rs) (Ty.up _ hx (au.trans gF)) hl hw hd).mono ?_;rintro e v1 ⟨AO,cO,SO,rfl,aJ,aL,ar⟩;have al:=au.trans (fy.trans (b:=_) gF ar)));have e5:Has (jY.sl 160) v1 [J (F ⟨w.heap.size,0,I⟩) 1 1] [x] [w.heap.size]:=LC (zj (Vj _ _) (fy.trans (b:=_) gF ar)) aC.out;have ai:∀ b∈SO,w.heap.size+1<=b:=fun b hb=>by have:=aL b hb;simp at this;omega
 go_loopw [5,7] (fun z j wr=>∃(k nx:Nat) (ys:D iq) (qs:ig) (A5:N VQ) (c5:Nat) (S:D Nat),z=J A5 (ys.length+1) c5/\j=C Z k/\k<=ks.len/\ys.length<=100000/\Hid (k+qs.len=ks.len)/\Hid (fy w wr)/\Hid (Has (jY.sl 160) wr [J A5 (ys.length+1) c5] (x::ys) S)/\Hid (∀ b∈S,w.heap.size<=b/\b∉SO)/\Hid (Has (zv.sl 3) wr [J AO (ks.iL (a+1)).length cO] (ks.iL (a+1)) SO)/\Hid qs.wf/\Hid (xs.drop nx=qs.flat++rs)/\Hid ((ks.iL (a+1)).drop k=qs.iL nx)/\Hid (ys++qs.fold=ks.fold)/\Hid (qs.size<=ks.size)) (fun _ j _=>ks.len-(Wj j).toNat)
 case atStart=>
  exact⟨0,a+1,[],ks,_,1,[w.heap.size],rfl,rfl,Vu _,Vu _,fk fh,fk (al.trans gF),fk (e5.fH gF),fk (fun b hb=>by simp only[Vi] at hb;subst hb;exact⟨Vz _,fun hm=>by have:=ai _ hm;omega⟩),fk (aJ.fH gF),fk hw.2.2,ay,fk rfl,fk gm,fk (Vz _)⟩
 case round=>
  obtain⟨k,nx,ys,qs,A5,c5,S,rfl,rfl,b2,b6,a2,hG,hH,hS,hO,ag,ae,af,hE,a4⟩:=hrel;have hS2:∀ b∈S,w.heap.size<=b:=fun b hb=>(hS.out b hb).1
  match qs,ag,ae,hE,a2,af,a4 with
  | .nil,ag,ae,hE,a2,af,a4=>
   have HY:Hid (ys=ks.fold):=fk (by have h:=hE.out;simpa[ig.fold] using h);have aT:¬ ((k:Int)<((ks.iL (a+1)).length:Int)):=by have h:=a2.out;simp only[ig.len,Wk] at h;rw[ig.lX];omega
   have x0:=za hG.out x0;have x1:=za hG.out x1;have x2:=za hG.out x2;have b1:=Vn aP hG.out.size;have ab:Hid ((Ex.node x ks).fold=qp x ks.fold):=fk rfl;rcases Wm (gE x.fC 2 6) with hb | hb
   rotate_left
   ·have HB:=fk hb
    have HF:Hid ((Ex.node x ks).fold=x::ks.fold):=fk (Qp hb);clear hb;exact wX
   ·have HB:=fk hb
    by_cases h2:ks.fold.length=2
    rotate_left
    ·have HF:Hid ((Ex.node x ks).fold=x::ks.fold):=fk (Qq h2)
     have aW:((ys.length:Int)+1 == 3)=M:=Vw.2 (by rw[HY.out];omega);clear hb h2;exact wX
    ·have ah:ys.length=2:=by rw[HY.out];exact h2
     obtain⟨g7,o7,p,ao,_,a3,p0,p1,p2,pk,pn,_⟩:=vZ (xs:=x::ys) hH.out.read (k:=1) (by simp[ah]);obtain⟨g8,o8,r,ad,_,a5,r0,r1,r2,rk,rn,_⟩:=vZ (xs:=x::ys) hH.out.read (k:=2) (by simp[ah])
     have ax:ys = [p,r]:=by
      match ys,ah,a3,a5 with
      | [y1,y2],_,a3,a5=>
       simp at a3 a5;rw[a3,a5]
     have ac:Hid (ks.fold = [p,r]):=fk (by rw[<-HY.out];exact ax);have aW:((ys.length:Int)+1 == 3)=H:=V4.2 fh;have aE:(1:Int)<(ys.length:Int)+1:=fh;have aF:(2:Int)<(ys.length:Int)+1:=fh;rw[ao] at ad;injection ad with ad
     injection ad with q1 q2
     subst q1 q2;subst ao;simp only[Ys,Nat.reduceMul] at p0 p1 p2 r0 r1 r2;have b0:g7<wr.heap.size:=hH.out.lt g7 (TV hH.out);clear a3 a5 h2 ax ah;by_cases k1:p.fC=0
     rotate_left
     ·have HF:Hid ((Ex.node x ks).fold=x::ks.fold):=fk (by rw[ab.out,ac.out];exact Qr k1)
      have av:(p.fC == 0)=M:=Vw.2 k1;clear hb k1;exact wV
     ·by_cases k2:r.fC=0
      rotate_left
      ·have HF:Hid ((Ex.node x ks).fold=x::ks.fold):=fk (by rw[ab.out,ac.out];exact Qs k2)
       have av:(p.fC == 0)=H:=V4.2 k1;have aR:(r.fC == 0)=M:=Vw.2 k2;clear hb k1 k2;exact wV
      ·have av:(p.fC == 0)=H:=V4.2 k1
       have aR:(r.fC == 0)=H:=V4.2 k2;obtain⟨Va,hV⟩:∃ Va,kS (x.fC+3) p.iY r.iY=Va:=⟨_,rfl⟩
       have bV:fQ Va:=hV ▸ Pr _ _ _;have hA:=Sf (zr.1 hb) pn rn hV;rcases Wm (gE Va 0 999) with hv | hv
       ·have HV:=fk hv
        have HF:Hid ((Ex.node x ks).fold = [uw Va]):=fk (by rw[ab.out,ac.out,<-hV];exact Qu hb k1 k2 (by rw[hV];exact hv));have aD:=fk hV;clear hb k1 k2 hv hV;go_wp2_with(first | (go_at_call 43;(with_reducible refine(iU _ _ _ _).mono ?_);rw[HB.out];rintro e w1 ⟨rfl,rfl⟩) | (go_quiet (first | (go_at_call 142;with_reducible exact hA _ _))) | (go_at_call 43;(with_reducible refine(iU _ _ _ _).mono ?_);rw[HV.out];rintro e w1 ⟨rfl,rfl⟩));have hz:(wr.alloc (U #[C Z x.fC,C Z x.iY,Q x.fJ] 160)).heap.size=wr.heap.size+1:=gm;have ap:=Vj (wr.alloc (U #[C Z x.fC,C Z x.iY,Q x.fJ] 160)) (U #[C Z 0,C Z Va,Q ⟨#[]⟩] 160);rw[hz] at ap;refine Vr (v:=J (F ⟨wr.heap.size+1,0,I⟩) 1 1) (by simp[VF,results209,go_sem]) rfl ?_;refine jd.mk (xs:=(Ex.node x ks).fold) (ys:=[uw Va]) (n:=1) (S:=[wr.heap.size+1]) ?_ (HF.out).symm rfl (fun b hb=>by simp only[Vi] at hb;subst hb;have:=hG.out.size;omega) (hG.out.trans gF);refine LC (t:=uw Va) (W0:=w) (B:=0) (zj ap gF) (uX ⟨?_,?_⟩ bV ?_)
        all_goals (simp only[uw];decide)
       ·have HV:=fk hv
        have HF:Hid ((Ex.node x ks).fold=x::ks.fold):=fk (by rw[ab.out,ac.out];exact Qt (by rw[hV];exact hv));have aD:=fk hV;clear hb k1 k2 hv hV;go_wp2_with(first | (go_at_call 43;(with_reducible refine(iU _ _ _ _).mono ?_);rw[HB.out];rintro e w1 ⟨rfl,rfl⟩) | (go_quiet (first | (go_at_call 142;with_reducible exact hA _ _))) | (go_at_call 43;(with_reducible refine(iU _ _ _ _).mono ?_);rw[HV.out];rintro e w1 ⟨rfl,rfl⟩));exact Vr (v:=J (F ⟨g7,o7,I⟩) (ys.length+1) c5) (by simp[VF,results209,go_sem]) rfl (jd.mk (hH.out.fH gF) (by rw[HY.out];exact(HF.out).symm) gm hS2 (hG.out.trans gF))
  | .cons ex q,ag,ae,hE,a2,af,a4=>
   have aj:xs.drop nx=ex.flat++(q.flat++rs):=by rw[ae.out];simp only[ig.flat,VM]
   have a6:(ks.iL (a+1)).drop k=(nx:Int)::q.iL (nx+ex.size):=af.out;obtain⟨an,a7⟩:=Aw a6;have a1:k<(ks.iL (a+1)).length:=(Vh.1 an).1;obtain⟨go,oo,v,aG,a8,vc,_,_⟩:=ma hO.out.read a1;obtain rfl:v=(nx:Int):=by rw[an] at a8;injection a8 with a8;exact a8.symm
   have aT:(k:Int)<((ks.iL (a+1)).length:Int):=fh;have aQ:(0:Int)<=(k:Int):=fh;have aS:k<ks.len:=by rw[<-ig.lX ks (a+1)];exact a1
   have aO:ex.size<=n:=by have h:=a4.out;simp only[ig.size] at h;omega
   have am:ys.length+ex.fold.length<=100000:=by
    have h:=WY List.length hE.out;simp only[ig.fold,Vk] at h;omega
   have a9:ex.wf/\q.wf:=ag.out;have aB:=fk a7;have aA:Hid (xs.drop (nx+ex.size)=q.flat++rs):=fk (by rw[<-Xx,aj,<-ex.ie,Yg]);have az:=fk aj;subst aG;clear an a7 a6 aj a8 a1;go_wp2_with(first | (go_at_call 209;refine(ih ex aO (Ty.up _ hx (hG.out.trans gF)) aV a9.1 az.out).mono ?_;rintro e v2 ⟨AF,cF,SF,rfl,aI,aX,aq⟩) | (refine yZ (L:=ys.length+1+ex.fold.length) rfl (.tmp 24) (.tmp 30) BY rW (S:=S) (hH.out.fH (fy.trans (b:=_) gF (aq.trans gF))) (Ty.up _ aI.read gF) rfl rfl rfl rfl fh fh ?_;intro A8 c8 W8 S8 aw aH aK));have a0:fy wr v2:=fy.trans (b:=_) gF aq;go_roundw
   case measure=>exact iC
   case rel=>
    have b5:=a0.size;refine⟨k+1,nx+ex.size,ys++ex.fold,q,A8,c8,S8,by rw[Vk];congr 1;omega,io,fh,by rw[Vk];exact am,fk (by have h:=a2.out;simp only[ig.len] at h;omega),fk (aw.fH (hG.out.trans (a0.trans gF)) hS2),fk (by rw[Vk,show ys.length+ex.fold.length+1=ys.length+1+ex.fold.length from fh];simpa using aH),fk (fun b hb=>?_),fk ((hO.out.fH (a0.trans gF)).gu aw (fun b hb hm=>(hS.out b hm).2 hb)),fk a9.2,aA,aB,fk (by rw[<-hE.out];simp[ig.fold]),fk (by have h:=a4.out;simp only[ig.size] at h;omega)⟩;rcases aK b hb with h | h
    ·exact hS.out b h
    ·have h1:=hG.out.size
     (try simp at h);exact⟨fh,fun hm=>by have:=hO.out.lt b hm;omega⟩
theorem rU {a b:V} {k:Nat} (h:fG S a b)(hn:k∉S)(hk:a.heap[k]?=F o):b.heap[k]?=F o:=(h.block k (blt hk) hn).trans hk
theorem SQ {e:Ex} {rs:D iq} (hx:(jY.sl 160).R w w.heap.size [J A xs.length c] xs)(hl:xs.length<=100000)(hw:e.wf)(hd:xs.drop 0=e.flat++rs) :
  VK prog 209 #[J A xs.length c,C Z 0] w (jd e.fold w):=zya e.size e (Vz _) (a:=0) hx hl hw hd
theorem zsE (hx:(jY.sl 160).R w w.heap.size [J A xs.length c] xs)(hl:xs.length<=1099511627776) :
  VK prog 202 #[J A xs.length c] w (jd (tj xs) w):=by
 rcases Wm (rH xs) with he | he
 ·obtain⟨e,hw,h1,a5,h2⟩:=Cm he
  have a4:xs.length<=100000:=fh;have HE:=fk he;have HF:=fk h2;have HD:Hid (xs.drop 0=e.flat++[]):=fk (by rw[WQ,Wu];exact h1);clear he h1 h2;go_enter func202,ntmps202;go_wp2_with(first | (go_at_call 189;refine(zmq hx hl).mono ?_;rw[HE.out];rintro e1 v1 ⟨rfl,a0⟩) | (go_at_call 209;refine(SQ (Ty.up _ hx a0) a4 hw HD.out).mono ?_;rintro e2 v2 ⟨A2,c2,S2,rfl,a1,a2,a3⟩));refine Vr (v:=J A2 e.fold.length c2) (by simp[VF,results202,go_sem]) rfl ?_;exact jd.mk (a1) (HF.out).symm rfl (fun b hb=>by have h1:=a2 b hb;have h2:=a0.size;omega) (a0.trans a3)
 ·have HE:=fk he
  clear he;go_enter func202,ntmps202;go_wp2_with(first | (go_at_call 189;refine(zmq hx hl).mono ?_;rw[HE.out];rintro e1 v1 ⟨rfl,a0⟩));refine Vr (v:=J (F ⟨v1.heap.size,0,I⟩) 0 0) (by simp[VF,results202,go_sem]) rfl ?_;exact jd.mk (xs:=tj xs) (ys:=[]) (n:=0) (S:=[v1.heap.size]) (Has.iK jY (Vj _ _)) (by unfold tj;rw[Vo (by rw[HE.out];decide)]) rfl (fun b hb=>by simp only[Vi] at hb;subst hb;exact a0.size) (a0.trans gF)
theorem vu:iZ prog 96 9 jB 16:=by
 refine⟨underlying96,?_,gv⟩;have h:(prog.info? 9).map (fun i=>(i.zero,i.size,i.bytes))=F (F (Q ⟨#[]⟩),1,16):=gU;cases hi:prog.info? 9 with
 | none=>rw[hi] at h;simp at h
 | some i=>
  exact ya
def sU (x:fB)(w:V)(r:Z9)(w':V):Prop:=∃ A0 c0 A1 c1 S,r=.returned (.agg #[C Z x.fC,Q x.fJ,J A0 x.gD.length c0,J A1 x.Expr.length c1])/\Has zS w' [C Z x.fC,Q x.fJ,J A0 x.gD.length c0,J A1 x.Expr.length c1] x S/\(∀ b∈S,w.heap.size<=b)/\fy w w'
theorem sU.mk (h:gH zS w w' [C Z x.fC,Q x.fJ,J A0 x.gD.length c0,J A1 x.Expr.length c1] x)(hg:fy w w'):sU x w (.returned (.agg #[C Z x.fC,Q x.fJ,J A0 x.gD.length c0,J A1 x.Expr.length c1])) w':=by
 obtain⟨S,h1,h2,h3⟩:=h;exact⟨_,_,_,_,S,rfl,⟨h1,h2⟩,h3,hg⟩
theorem FC {S0 S1:D Nat} (h0:fQ x.fC)(h1:x.fJ.size<=9223372036854775807)(h2:Has (jB.sl 9) W [J A0 x.gD.length c0] x.gD S0)(h3:Has (jY.sl 160) W [J A1 x.Expr.length c1] x.Expr S1)(hd:∀ b∈S0,b∉S1) :
  Has zS W [C Z x.fC,Q x.fJ,J A0 x.gD.length c0,J A1 x.Expr.length c1] x (S0++S1):=
 ⟨PL h0 h1 h2.1 h3.1,Wb.2 ⟨h2.2,h3.2,fun a ha b hb he=>hd a ha (he ▸ hb)⟩⟩
theorem Pu (hx:(jY.sl 160).R w w.heap.size [J A xs.length c] xs)(hl:xs.length<=1099511627776) :
  VK prog 215 #[J A xs.length c] w (jd xs w):=by
 go_enter func215,ntmps215;go_wp2_with(at_builtin;refine yZ (L:=xs.length) rfl (.tmp 3) (.tmp 4) BY rW (S:=[w.heap.size]) (Has.iK jY (Vj _ _)) (Ty.up _ hx gF) rfl rfl rfl (VJ _).symm fh fh ?_;intro A7 c7 W7 S7 a3 a0 a1)
 have a2:∀ b∈S7,w.heap.size<=b:=fun b hb=>by
  rcases a1 b hb with h | h
  ·simp at h;omega
  ·simp at h;omega
 refine Vr (v:=J A7 xs.length c7) (by simp[VF,results215,go_sem]) rfl ?_;rw[Wo] at a0;exact jd.mk a0 rfl rfl a2 (a3.fH (W0:=w) gF (fun b hb=>by simp at hb;omega))
theorem J3.Be {α β:Type} {T:Ty α} {U7:Ty β} {f:Wl} {Y W':V} {va vb vb':Value} {xa:D α} {xb xb':D β} {Sa Sb Sb':D Nat} {go:Nat} (h:J3 T U7 e f Y W va vb xa xb Sa Sb go o)(hg:fy W W')(hH:Has (U7.sl f) W' [vb'] xb' Sb')(hS:∀ b∈Sb',W.heap.size<=b):J3 T U7 e f Y W' va vb' xa xb' Sa Sb' go o:=by
 have hl:=(blt h.ho)
 refine⟨h.ha.fH hg,hH,fun b hb hm=>?_,h.la,fun b hb=>?_,h.hg.trans hg,zj h.ho hg,h.su,fun hm=>?_⟩
 ·have:=h.ha.lt b hb;have:=hS b hm;omega
 ·have:=h.hg.size;have:=hS b hb;omega
 ·have:=hS go hm;omega
theorem zsq (p0:fQ x.fC)(p1:x.fJ.size<=9223372036854775807)(h2:(jB.sl 9).R w w.heap.size [J A0 x.gD.length c0] x.gD)(h3:(jY.sl 160).R w w.heap.size [J A1 x.Expr.length c1] x.Expr)(hl2:x.gD.length<=1099511627776)(hl3:x.Expr.length<=1099511627776) :
  VK prog 208 #[.agg #[C Z x.fC,Q x.fJ,J A0 x.gD.length c0,J A1 x.Expr.length c1]] w (sU x w):=by
 go_enter func208,ntmps208;go_wp2_with(fail);have a4:fy w ((w.alloc (U #[C Z x.fC,Q x.fJ,J A0 x.gD.length c0,J A1 x.Expr.length c1] 99)).alloc (U #[C Z 0,Q ⟨#[]⟩,J I 0 0,J I 0 0] 99)):=gG;have eb:((w.alloc (U #[C Z x.fC,Q x.fJ,J A0 x.gD.length c0,J A1 x.Expr.length c1] 99)).alloc (U #[C Z 0,Q ⟨#[]⟩,J I 0 0,J I 0 0] 99)).heap[w.heap.size]?=F (U #[C Z x.fC,Q x.fJ,J A0 x.gD.length c0,J A1 x.Expr.length c1] 99 (0,0)):=zj (Vj w _) gF;have er:((w.alloc (U #[C Z x.fC,Q x.fJ,J A0 x.gD.length c0,J A1 x.Expr.length c1] 99)).alloc (U #[C Z 0,Q ⟨#[]⟩,J I 0 0,J I 0 0] 99)).heap[w.heap.size+1]?=F (U #[C Z 0,Q ⟨#[]⟩,J I 0 0,J I 0 0] 99 (0,0)):=by have h:=Vj (w.alloc (U #[C Z x.fC,Q x.fJ,J A0 x.gD.length c0,J A1 x.Expr.length c1] 99)) (U #[C Z 0,Q ⟨#[]⟩,J I 0 0,J I 0 0] 99);rw[VH] at h;exact h
 have d2:=Ty.up _ h2 a4;have d3:=Ty.up _ h3 a4;obtain⟨g,hg⟩:∃ g,w.heap.size=g:=⟨_,rfl⟩
 rw[hg] at eb er |-;generalize ((w.alloc _).alloc _)=Y at a4 eb er d2 d3 |-;obtain⟨y0,y1,y2,y3,_,yl⟩:=jF eb;have zl:=(jF er).2.2.2.2.2;clear h2 h3;refine lO (fun w'=>Vg w' ⟨g,0,I⟩=F (C Z x.fC)/\Vg w' ⟨g,1,I⟩=F (Q x.fJ)/\Vg w' ⟨g,2,I⟩=F (J A0 x.gD.length c0)/\Vg w' ⟨g,3,I⟩=F (J A1 x.Expr.length c1)) 12 gU ⟨zc y0,zc y1,zc y2,zc y3⟩ (fun hH=>?_);have HJ:=J3.start (T:=jB) (U7:=jY) (e:=9) (f:=160) er;have HJ:=HJ.fH ((fy.refl _).drew);generalize hYd:Y.drew=Wx at HJ hH |-;clear hYd;refine .tq 0 [12] hH ?_;refine .tq 1 [12] hH ?_;refine .tq 2 [12] hH ?_;refine .tq 3 [12] hH ?_;refine .tq 5 [12] hH ?_;refine .tq 6 [12] hH ?_;refine .tq 8 [12] hH ?_;refine .tq 9 [12] hH ?_;refine fL.iQ (i:=4) gU rfl (fun K hK=>?_)
 ·go_simp
  have HJ:=HJ.nM;refine hK.out _ _ ⟨HJ.cell y0,HJ.cell y1,HJ.cell y2,HJ.cell y3⟩ ?_;clear hK;generalize WJ _ (U #[] 9)=Wx at HJ |-
  try simp only[lay]
  refine fL.iQ (i:=7) gU rfl (fun K hK=>?_)
  ·refine rj (L:=x.gD.length) rfl (.tmp 7) (.tmp 9) vu ng HJ.ha (Ty.up _ d2 HJ.hg) rfl rfl rfl (VJ _).symm fh fh ?_
   intro B1 d1 W1 S1 a8 hH hS;rw[Wo] at hH;have HJ:=HJ.rO a8 hH hS;refine hK.out _ _ ⟨HJ.cell y0,HJ.cell y1,HJ.cell y2,HJ.cell y3⟩ ?_;clear hK a8 hH hS
   try simp only[lay]
   refine fL.iQ (i:=10) gU rfl (fun K hK=>?_)
   ·go_simp
    go_at_call 215;refine(Pu (Ty.up _ d3 HJ.hg) hl3).mono ?_;rintro e v ⟨A8,c8,S8,rfl,a5,a6,a7⟩;have HJ:=HJ.Be a7 a5 a6;refine hK.out _ _ ⟨HJ.cell y0,HJ.cell y1,HJ.cell y2,HJ.cell y3⟩ ?_;clear hK a5 a6 a7
    try simp only[lay]
    refine .tq 11 [12] ⟨HJ.cell y0,HJ.cell y1,HJ.cell y2,HJ.cell y3⟩ ?_;obtain⟨a0,a1,a2,a3,af,al⟩:=jF HJ.ho;refine fL.last gU rfl gU (fun K hK=>?_);go_simp;refine hK.out _ _ ?_;clear hK
    try simp only[lay]
    have h2:=wj HJ.ho (C Z x.fC) (Q x.fJ) (J B1 x.gD.length d1) (J A8 x.Expr.length c8);obtain⟨r0,r1,r2,r3,_,_⟩:=jF h2.1;have hA:=HJ.ha.gu h2.2 (fun b hb hm=>HJ.su (by simp at hm;exact hm ▸ hb));have hB:=HJ.hb.gu h2.2 (fun b hb hm=>HJ.uK (by simp at hm;exact hm ▸ hb));go_wp2_with(fail);exact Vr (v:=.agg #[C Z x.fC,Q x.fJ,J B1 x.gD.length d1,J A8 x.Expr.length c8]) (by simp[VF,results208,go_sem,r0,r1,r2,r3]) rfl ⟨_,_,_,_,_,rfl,FC p0 p1 hA hB HJ.sW,fun b hb=>(VA.1 hb).elim (fun h=>by have:=HJ.la b h;have:=a4.size;omega) (fun h=>by have:=HJ.lb b h;have:=a4.size;omega),h2.2.fH (a4.trans HJ.hg) (fun b hb=>by simp at hb;omega)⟩
end Go.Proofs.YthgbglbaemelhaaGreat
