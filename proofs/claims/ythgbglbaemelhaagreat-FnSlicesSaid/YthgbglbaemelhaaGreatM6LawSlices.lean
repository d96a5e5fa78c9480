/-
  PART.
-/
import Derived.Test.YthgbglbaemelhaaGreatM4LawSlices
import Derived.Test.YthgbglbaemelhaaGreatM5LawSlices
import Derived.Deep.CutRange
set_option linter.unusedVariables false
set_option linter.unusedSimpArgs false
set_option maxRecDepth 100000
set_option maxHeartbeats 8000000
namespace Go.Proofs.YthgbglbaemelhaaGreat
open Value renaming slice->G,int->J,bool->H,string->V
open IntKind renaming i64->C,wrap->QP
open Option renaming none->D,some->Z
open Obj renaming cells->F
open Bool renaming false->I,true->M
open Go renaming World->U,Calls->Rh,Addr->Ri,yielded->Su
open World renaming cell?->QL,frozen?->Rb
open List renaming length_cons->Rc,length_nil->Ru,getElem?_cons_zero->RA,getElem?_cons_succ->Sw
open RowKit renaming intOf->Ry
open _root_.Nat renaming add_zero->RK
open Region renaming wanted->Rx,ready->RL,noSelect->Tn,free->Ui
open Tryz
open Go.RowKit
variable {A A0 A1 A2:X Ri}{B c c0 c1 c2 j k n:Nat}{a b e:Int}{bases es:Q Int}{i:gu}{imgs:Q gu}{l:Q fC}{s:gv}{w:U}{x:fC}
theorem Il {code:N} {a:Nat} {prev:Q N} (h:l[j]?=Z x):jl code (l.drop j) prev a=(decide (x.Start=(a:Int)) && decide (1<=x.gK) && decide (x.gK<=(code.size:Int)-a) && kU x.Name && !prev.any (fun y=>decide (y=x.Name)) && kS (code.extract a (a+x.gK.toNat)) 0 && jl code (l.drop (j+1)) (prev++[x.Name]) (a+x.gK.toNat)):=by
 have hl:=(QM.1 h)
 obtain⟨hl,rfl⟩:=hl;rw[Q6 hl];rfl
theorem Fy (h:l[j]?=Z x):(l.take (j+1)).map fC.Name=(l.take j).map fC.Name++[x.Name]:=by
 rw[vO h,TR];rfl
theorem uo {g:Prop} (f:g:=by
  obtain⟨y,hy,hye⟩:=TN.1 hyn
  have hye:y.Name=nm:=hye.trans (by simpa using hye2)
  obtain⟨i,hi⟩:=List.mem_iff_getElem?.1 hy
  have him:i<m:=by
   have:=(QM.1 hi).1
   rw[Sj] at this
   omega
  rw[Sn,Q5 him] at hi
  exact absurd hye (hne.out i y him hi)):g:=f
theorem uz {g:Prop} (f:g:=by
  go_wp2_with(fail)
  go_roundw
  case measure=>exact gH
  case rel=>exact⟨m+1,by go_num,by omega,fh (fun i y hi hy=>by
   by_cases him:i=m
   ·subst him
    rw[HYK.out] at hy
    cases hy
    exact HE.out
   ·exact hne.out i y (by omega) hy),fh gG⟩):g:=f
theorem vw {g:Prop} (f:g:=by
  go_roundw
  exact⟨m+1,a+z,by go_num,by go_num,by omega,by omega,HF,fh (hGV.trans gF)⟩
  exact gH):g:=f
theorem zeK (h1:(ji.sl 137).R w w.heap.size [G A i.fm.length c] i.fm)(hs:i.Code.size<=1099511627776)(hn:i.fm.length<=1099511627776) :
  Rh prog 87 #[.agg #[V i.Code,G A i.fm.length c]] w fun e w'=>e=.returned (H (jr i))/\ft w w':=by
 obtain⟨_,_,ar,au,an⟩:=lu h1;injection ar with e1 e2 e3
 subst e1 e3;clear e2;obtain⟨code,a0⟩:=i;simp only at h1 hs hn au an |-;by_cases hbig:code.size<=1000000
 case neg=>
  have HQ:=fh (show jr ⟨code,a0⟩=I from by simp[jr,hbig]);have hg:decide ((1000000:Int)<(code.size:Int))=M:=QY (by omega);go_enter func87,ntmps87;go_wp2_with(fail);go_ret;exact⟨zo HQ.out.symm,gG⟩
 have HQ:=fh (show jr ⟨code,a0⟩=jl code a0 [] 0 from by simp[jr,hbig]);have hg:decide ((1000000:Int)<(code.size:Int))=I:=QT (by omega);go_enter func87,ntmps87;go_wp2_with(fail);have a1:ft w (w.alloc (F #[V code,G A a0.length c] 103)):=gG;have eb:=QO w (F #[V code,G A a0.length c] 103);have h2:=Ty.up _ h1 a1;obtain⟨g0,aj⟩:∃ g0,w.heap.size=g0:=⟨_,rfl⟩
 rw[aj] at eb |-;generalize w.alloc _=Y at a1 eb h2 |-;clear h1 aj;obtain⟨y0,y1,_,_,yl⟩:=kI eb;go_loopw [3,17] (fun x y wr=>∃(j a:Nat),x=J C a/\y=J C j/\j<=a0.length/\a<=code.size/\Hid (jl code (a0.drop j) ((a0.take j).map fC.Name) a=jl code a0 [] 0)/\Hid (ft Y wr)) (fun _ y _=>a0.length-(Ry y).toNat)
 case atStart=>exact⟨0,0,rfl,rfl,QX _,QX _,fh rfl,fh (ft.refl _)⟩
 case round=>
  obtain⟨j,a,rfl,rfl,hj,ha,hE,hG⟩:=hrel;obtain⟨os,d,rfl⟩:=hG.out;clear hG;by_cases hlt:j<a0.length
  ·obtain⟨g,aJ,x,rfl,aD,ak,ac,ad,ae,a9,al,am⟩:=qm h2 hlt
   have hF:=Il (code:=code) (a:=a) (prev:=(a0.take j).map fC.Name) ak;rw[hE.out] at hF;have a8:=fh (Fy ak);have ag:=zd ac os d;have ah:=zd ad os d;have ai:=zd ae os d;have z0:=zd y0 os d;have z1:=zd y1 os d;have aF:(j:Int)<(a0.length:Int):=by omega
   clear hE;obtain⟨nm,st,sz⟩:=x;simp only at hF ac ad ae a9 al am ag ah ai a8;by_cases q1:st=(a:Int)
   case neg=>
    have HF:=fh (show jl code a0 [] 0=I from by rw[hF];simp[q1]);have p1:(st != (a:Int))=M:=by simp[q1]
    clear hF;go_wp2_with(fail);go_ret;exact⟨zo (by rw[HQ.out,HF.out]),a1.trans gF⟩
   subst q1;have p1:(((a:Nat):Int) != (a:Int))=I:=by simp
   by_cases q2:1<=sz
   case neg=>
    have HF:=fh (show jl code a0 [] 0=I from by rw[hF];simp[q2]);have p2:decide (sz<1)=M:=QY (by omega);clear hF;go_wp2_with(fail);go_ret;exact⟨zo (by rw[HQ.out,HF.out]),a1.trans gF⟩
   have p2:decide (sz<1)=I:=QT (by omega);by_cases q3:sz<=(code.size:Int)-a
   case neg=>
    have HF:=fh (show jl code a0 [] 0=I from by rw[hF];simp[q3]);have p3:decide ((code.size:Int)-a<sz)=M:=QY (by omega);clear hF;go_wp2_with(fail);go_ret;exact⟨zo (by rw[HQ.out,HF.out]),a1.trans gF⟩
   have p3:decide ((code.size:Int)-a<sz)=I:=QT (by omega);obtain⟨z,rfl⟩:=Rl (show 0<=sz by omega);cases q4:kU nm
   case false=>
    have HF:=fh (show jl code a0 [] 0=I from by rw[hF];simp[q4]);have HN:=fh q4;clear hF q4;go_wp2_with(go_at_call 143;(with_reducible refine(G9 nm _ a9).mono ?_);rw[HN.out];rintro e w1 ⟨rfl,rfl⟩);go_ret;exact⟨zo (by rw[HQ.out,HF.out]),a1.trans gF⟩
   have HN:=fh q4
   have af:jl code a0 [] 0=(!((a0.take j).map fC.Name).any (fun y=>decide (y=nm)) && kS (code.extract a (a+z)) 0 && jl code (a0.drop (j+1)) ((a0.take (j+1)).map fC.Name) (a+z)):=by
    rw[hF,a8.out,q4];simp[q2,q3]
   have a7:=fh af;clear hF af q4 a8;go_wp2_with(go_at_call 143;(with_reducible refine(G9 nm _ a9).mono ?_);rw[HN.out];rintro e w1 ⟨rfl,rfl⟩);have hGV:ft Y ((fx Y os d).alloc (F #[V nm,J C (a:Int),J C (z:Int)] 137)):=gG;have es:=QO (fx Y os d) (F #[V nm,J C (a:Int),J C (z:Int)] 137);obtain⟨gs,a6⟩:∃ gs,(fx Y os d).heap.size=gs:=⟨_,rfl⟩
   rw[a6] at es;rw[lr] at a6;rw[a6];generalize (fx Y os d).alloc _=QH at hGV es |-;have hc:=fun k=>RV QH gs k _ _ (0,0) es;have v0:QL QH ⟨gs,0,D⟩=Z (V nm):=hc 0;have v1:QL QH ⟨gs,1,D⟩=Z (J C (a:Int)):=hc 1;have v2:QL QH ⟨gs,2,D⟩=Z (J C (z:Int)):=hc 2;have u0:=jY hGV y0;have u1:=jY hGV y1;have h3:=Ty.up _ h2 hGV;have vl:gs<QH.heap.size:=(blt es)
   have ul:g0<QH.heap.size:=QS yl hGV.size;clear hc es ag ah ai z0 z1 ac ad ae p1 p2 p3 a6;have aG:(j:Int)<=(a0.length:Int):=by omega
   have aE:(j:Int)<=(c:Int):=by omega
   go_loopw [52] (fun y we=>∃ m:Nat,y=J C m/\m<=j/\Hid (∀(i:Nat) (y:fC),i<m->a0[i]?=Z y->y.Name≠nm)/\Hid (ft QH we)) (fun y _=>j-(Ry y).toNat)
   case atStart=>exact⟨0,rfl,QX _,fh (fun i y h=>absurd h (Uv _)),fh (ft.refl _)⟩
   case round=>
    obtain⟨m,rfl,hm,hne,hG⟩:=hrel;obtain⟨a2,d2,rfl⟩:=hG.out;clear hG;by_cases hml:m<j
    ·obtain⟨g2,ay,y,aa,ap,a5,av,aw,ax,aA,aB,aC⟩:=qm h3 (k:=m) (by omega)
     injection aa with aa
     injection aa with e1 e2
     subst e1 e2;have aH:(m:Int)<(j:Int):=by omega
     have k0:=zd av a2 d2;have k1:=zd aw a2 d2;have k2:=zd ax a2 d2;have r0:=zd v0 a2 d2;obtain⟨yn,ys,yz⟩:=y;simp only at k0 k1 k2 a5;by_cases he:yn=nm
     ·subst he
      have HF:=fh (show jl code a0 [] 0=I from by
       rw[a7.out];have:yn∈(a0.take j).map fC.Name:=TN.2 ⟨_,Q9 (i:=m) (by rw[Sn,Q5 hml];exact a5),rfl⟩;have ao:((a0.take j).map fC.Name).any (fun y=>decide (y=yn))=M:=SR.2 ⟨yn,this,by simp⟩;rw[ao]
       rfl)
      clear a5;go_wp2_with(fail);go_ret;exact⟨zo (by rw[HQ.out,HF.out]),(a1.trans hGV).trans gF⟩
     ·have aI:(yn.toList == nm.toList)=I:=by rw[lp,QT he]
      have HE:=fh he;have HYK:=fh a5;clear he a5;exact uz
    ·obtain rfl:m=j:=by omega
     have aK:=zd u0 a2 d2;have aL:=zd u1 a2 d2;have aM:=zd v1 a2 d2;have aN:=zd v2 a2 d2
     have aq:((a0.take m).map fC.Name).any (fun y=>decide (y=nm))=I:=by
      cases hcc:((a0.take m).map fC.Name).any (fun y=>decide (y=nm))
      ·rfl
      ·obtain⟨yn,hyn,hye2⟩:=SR.1 hcc
       exact uo
     have a3:=a7.out;rw[aq] at a3;simp only[UR,Tr] at a3;clear hne a7;have a4:(code.extract a (a+z)).size<=1099511627776:=by rw[Uk];omega
     obtain⟨b,hb⟩:∃ b,kS (code.extract a (a+z)) 0=b:=⟨_,rfl⟩
     rw[hb] at a3;have HB:=fh hb;have w1:QP C ((a:Int)+(z:Int))=(a:Int)+(z:Int):=RU _ (by omega);have w2:(a:Int)+(z:Int)<=(code.size:Int):=by omega
     have w3:(a:Int)<=(a:Int)+(z:Int):=by omega
     have w4:(0:Int)<=(a:Int)+(z:Int):=by omega
     clear hb;cases b with
     | false=>
      have HF:=fh (show jl code a0 [] 0=I from by rw[a3];rfl);clear a3;go_wp2_with(go_at_call 144;(with_reducible refine(zwi (code.extract a (a+z)) _ a4).mono ?_);rw[HB.out];rintro e w4 ⟨A4,n4,c4,rfl,az,d4,rfl⟩);go_ret;exact⟨zo (by rw[HQ.out,HF.out]),(a1.trans hGV).trans gF⟩
     | true=>
      have HF:=fh (show jl code (a0.drop (m+1)) ((a0.take (m+1)).map fC.Name) (a+z)=jl code a0 [] 0 from by rw[a3];simp);clear a3;go_wp2_with(go_at_call 144;(with_reducible refine(zwi (code.extract a (a+z)) _ a4).mono ?_);rw[HB.out];rintro e w4 ⟨A4,n4,c4,rfl,az,d4,rfl⟩);exact vw
  ·obtain rfl:j=a0.length:=by omega
   have ab:=hE.out;rw[Rq] at ab
   have HF:=fh (show ((a:Int) == (code.size:Int))=jl code a0 [] 0 from by
    rw[<-ab];simp only[jl];by_cases h:a=code.size
    ·simp[h]
    ·simp[h];omega)
   have z0:=zd y0 os d;clear hE ab;go_wp2_with(fail);go_ret;exact⟨zo (by rw[HQ.out,<-HF.out]),a1.trans gF⟩
theorem zeL (h1:(ji.sl 137).R w w.heap.size [G A i.fm.length c] i.fm)(hs:i.Code.size<=1099511627776)(hn:i.fm.length<=1099511627776) :
  Rh prog 81 #[.agg #[V i.Code,G A i.fm.length c]] w fun e w'=>e=.returned (H (jr i))/\ft w w':=by
 obtain⟨_,_,au,av,an⟩:=lu h1;injection au with e1 e2 e3
 subst e1 e3;clear e2;obtain⟨code,a0⟩:=i;simp only at h1 hs hn av an |-;have HQ:=fh (show jr ⟨code,a0⟩=(jl code a0 [] 0 && decide (code.size<=1000000)) from by simp[jr,Bool.and_comm]);go_enter func81,ntmps81;go_wp2_with(fail);have a1:ft w (w.alloc (F #[V code,G A a0.length c] 103)):=gG;have eb:=QO w (F #[V code,G A a0.length c] 103);have h2:=Ty.up _ h1 a1;obtain⟨g0,aj⟩:∃ g0,w.heap.size=g0:=⟨_,rfl⟩
 rw[aj] at eb |-;generalize w.alloc _=Y at a1 eb h2 |-;clear h1 aj;obtain⟨y0,y1,_,_,yl⟩:=kI eb;go_loopw [3,4] (fun x y wr=>∃(j a:Nat),x=J C a/\y=J C j/\j<=a0.length/\a<=code.size/\Hid (jl code (a0.drop j) ((a0.take j).map fC.Name) a=jl code a0 [] 0)/\Hid (ft Y wr)) (fun _ y _=>a0.length-(Ry y).toNat)
 case atStart=>exact⟨0,0,rfl,rfl,QX _,QX _,fh rfl,fh (ft.refl _)⟩
 case round=>
  obtain⟨j,a,rfl,rfl,hj,ha,hE,hG⟩:=hrel;obtain⟨os,d,rfl⟩:=hG.out;clear hG;by_cases hlt:j<a0.length
  ·obtain⟨g,aL,x,rfl,aF,ak,ac,ad,ae,aa,al,am⟩:=qm h2 hlt
   have hF:=Il (code:=code) (a:=a) (prev:=(a0.take j).map fC.Name) ak;rw[hE.out] at hF;have a9:=fh (Fy ak);have ag:=zd ac os d;have ah:=zd ad os d;have ai:=zd ae os d;have z0:=zd y0 os d;have z1:=zd y1 os d;have aH:(j:Int)<(a0.length:Int):=by omega
   clear hE;obtain⟨nm,st,sz⟩:=x;simp only at hF ac ad ae aa al am ag ah ai a9;by_cases q1:st=(a:Int)
   case neg=>
    have HF:=fh (show jl code a0 [] 0=I from by rw[hF];simp[q1]);have p1:(st != (a:Int))=M:=by simp[q1]
    clear hF;go_wp2_with(fail);go_ret;exact⟨zo (by rw[HQ.out,HF.out];rfl),a1.trans gF⟩
   subst q1;have p1:(((a:Nat):Int) != (a:Int))=I:=by simp
   by_cases q2:1<=sz
   case neg=>
    have HF:=fh (show jl code a0 [] 0=I from by rw[hF];simp[q2]);have p2:decide (sz<1)=M:=QY (by omega);clear hF;go_wp2_with(fail);go_ret;exact⟨zo (by rw[HQ.out,HF.out];rfl),a1.trans gF⟩
   have p2:decide (sz<1)=I:=QT (by omega);by_cases q3:sz<=(code.size:Int)-a
   case neg=>
    have HF:=fh (show jl code a0 [] 0=I from by rw[hF];simp[q3]);have p3:decide ((code.size:Int)-a<sz)=M:=QY (by omega);clear hF;go_wp2_with(fail);go_ret;exact⟨zo (by rw[HQ.out,HF.out];rfl),a1.trans gF⟩
   have p3:decide ((code.size:Int)-a<sz)=I:=QT (by omega);obtain⟨z,rfl⟩:=Rl (show 0<=sz by omega);cases q4:kU nm
   case false=>
    have HF:=fh (show jl code a0 [] 0=I from by rw[hF];simp[q4]);have HN:=fh q4;clear hF q4;go_wp2_with(go_at_call 133;(with_reducible refine(qT nm _ aa).mono ?_);rw[HN.out];rintro e w1 ⟨rfl,rfl⟩);go_ret;exact⟨zo (by rw[HQ.out,HF.out];rfl),a1.trans gF⟩
   have HN:=fh q4
   have af:jl code a0 [] 0=(!((a0.take j).map fC.Name).any (fun y=>decide (y=nm)) && kS (code.extract a (a+z)) 0 && jl code (a0.drop (j+1)) ((a0.take (j+1)).map fC.Name) (a+z)):=by
    rw[hF,a9.out,q4];simp[q2,q3]
   have a8:=fh af;clear hF af q4 a9;go_wp2_with(go_at_call 133;(with_reducible refine(qT nm _ aa).mono ?_);rw[HN.out];rintro e w1 ⟨rfl,rfl⟩);have hGV:ft Y ((fx Y os d).alloc (F #[V nm,J C (a:Int),J C (z:Int)] 137)):=gG;have es:=QO (fx Y os d) (F #[V nm,J C (a:Int),J C (z:Int)] 137);obtain⟨gs,a7⟩:∃ gs,(fx Y os d).heap.size=gs:=⟨_,rfl⟩
   rw[a7] at es;rw[lr] at a7;rw[a7];generalize (fx Y os d).alloc _=QH at hGV es |-;have hc:=fun k=>RV QH gs k _ _ (0,0) es;have v0:QL QH ⟨gs,0,D⟩=Z (V nm):=hc 0;have v1:QL QH ⟨gs,1,D⟩=Z (J C (a:Int)):=hc 1;have v2:QL QH ⟨gs,2,D⟩=Z (J C (z:Int)):=hc 2;have u0:=jY hGV y0;have u1:=jY hGV y1;have h3:=Ty.up _ h2 hGV;have vl:gs<QH.heap.size:=(blt es)
   have ul:g0<QH.heap.size:=QS yl hGV.size;clear hc es ag ah ai z0 z1 ac ad ae p1 p2 p3 a7;have aI:(j:Int)<=(a0.length:Int):=by omega
   have aG:(j:Int)<=(c:Int):=by omega
   go_loopw [6] (fun y we=>∃ m:Nat,y=J C m/\m<=j/\Hid (∀(i:Nat) (y:fC),i<m->a0[i]?=Z y->y.Name≠nm)/\Hid (ft QH we)) (fun y _=>j-(Ry y).toNat)
   case atStart=>exact⟨0,rfl,QX _,fh (fun i y h=>absurd h (Uv _)),fh (ft.refl _)⟩
   case round=>
    obtain⟨m,rfl,hm,hne,hG⟩:=hrel;obtain⟨a2,d2,rfl⟩:=hG.out;clear hG;by_cases hml:m<j
    ·obtain⟨g2,az,y,ab,ap,a6,aw,ax,ay,aC,aD,aE⟩:=qm h3 (k:=m) (by omega)
     injection ab with ab
     injection ab with e1 e2
     subst e1 e2;have aJ:(m:Int)<(j:Int):=by omega
     have aq:(m:Int)<(a0.length:Int):=by omega
     have aB:=zd u1 a2 d2;have k0:=zd aw a2 d2;have k1:=zd ax a2 d2;have k2:=zd ay a2 d2;have r0:=zd v0 a2 d2;obtain⟨yn,ys,yz⟩:=y;simp only at k0 k1 k2 a6;by_cases he:yn=nm
     ·subst he
      have HF:=fh (show jl code a0 [] 0=I from by
       rw[a8.out];have:yn∈(a0.take j).map fC.Name:=TN.2 ⟨_,Q9 (i:=m) (by rw[Sn,Q5 hml];exact a6),rfl⟩;have ao:((a0.take j).map fC.Name).any (fun y=>decide (y=yn))=M:=SR.2 ⟨yn,this,by simp⟩;rw[ao]
       rfl)
      clear a6;go_wp2_with(fail);go_quiet (fail);go_wp2_with(fail);go_ret;exact⟨zo (by rw[HQ.out,HF.out];rfl),(a1.trans hGV).trans gF⟩
     ·have aK:(yn.toList == nm.toList)=I:=by rw[lp,QT he]
      have HE:=fh he;have HYK:=fh a6;clear he a6;go_wp2_with(fail);go_quiet (fail);exact uz
    ·obtain rfl:m=j:=by omega
     have aM:=zd u0 a2 d2;have aB:=zd u1 a2 d2;have aN:=zd v1 a2 d2;have aO:=zd v2 a2 d2
     have ar:((a0.take m).map fC.Name).any (fun y=>decide (y=nm))=I:=by
      cases hcc:((a0.take m).map fC.Name).any (fun y=>decide (y=nm))
      ·rfl
      ·obtain⟨yn,hyn,hye2⟩:=SR.1 hcc
       exact uo
     have a3:=a8.out;rw[ar] at a3;simp only[UR,Tr] at a3;clear hne a8;have a5:(code.extract a (a+z)).size<=1099511627776:=by rw[Uk];omega
     obtain⟨b,hb⟩:∃ b,kS (code.extract a (a+z)) 0=b:=⟨_,rfl⟩
     rw[hb] at a3;have HB:=fh hb;have w1:QP C ((a:Int)+(z:Int))=(a:Int)+(z:Int):=RU _ (by omega);have w2:(a:Int)+(z:Int)<=(code.size:Int):=by omega
     have w3:(a:Int)<=(a:Int)+(z:Int):=by omega
     have w4:(0:Int)<=(a:Int)+(z:Int):=by omega
     clear hb;cases b with
     | false=>
      have HF:=fh (show jl code a0 [] 0=I from by rw[a3];rfl);clear a3;go_wp2_with(go_at_call 134;(with_reducible refine(zwj (code.extract a (a+z)) _ a5).mono ?_);rw[HB.out];rintro e w4 ⟨A4,n4,c4,rfl,aA,d4,rfl⟩);go_ret;exact⟨zo (by rw[HQ.out,HF.out];rfl),(a1.trans hGV).trans gF⟩
     | true=>
      have HF:=fh (show jl code (a0.drop (m+1)) ((a0.take (m+1)).map fC.Name) (a+z)=jl code a0 [] 0 from by rw[a3];simp);clear a3;go_wp2_with(go_at_call 134;(with_reducible refine(zwj (code.extract a (a+z)) _ a5).mono ?_);rw[HB.out];rintro e w4 ⟨A4,n4,c4,rfl,aA,d4,rfl⟩);exact vw
  ·obtain rfl:j=a0.length:=by omega
   have a4:=hE.out;rw[Rq] at a4;have z0:=zd y0 os d;have z1:=zd y1 os d;by_cases h:a=code.size
   ·subst h
    have HF:=fh (show jr ⟨code,a0⟩=decide ((code.size:Int)<=1000000) from by
     rw[HQ.out,<-a4];simp only[jl]
     simp;omega)
    clear hE a4;go_wp2_with(fail);go_ret;exact⟨zo (by rw[HF.out];try simp),a1.trans gF⟩
   ·have HF:=fh (show jr ⟨code,a0⟩=I from by
     rw[HQ.out,<-a4]
     simp[jl,h])
    have p9:((a:Int) == (code.size:Int))=I:=by simp;omega
    clear hE a4;go_wp2_with(fail);go_ret;exact⟨zo (by rw[HF.out];try simp),a1.trans gF⟩
theorem se {W:U} {g:Nat} {a b c:Value} {e:TypeId} (h:W.heap[g]?=Z (F #[a,b,c] e (0,0))) :
  QL W ⟨g,0,D⟩=Z a/\QL W ⟨g,1,D⟩=Z b/\QL W ⟨g,2,D⟩=Z c/\(∀ j,Rb W ⟨g,j,D⟩=I)/\g<W.heap.size:=by
 refine⟨?_,?_,?_,fun j=>by simp[Rb,h],(blt h)⟩
 all_goals
  rw[RV W g _ _ _ (0,0) h]
  rfl
theorem PX {α β:Type} {xs:Q α} {ys:Q β} {x:α} {y:β} (hx:xs[k]?=Z x)(hy:ys[k]?=Z y)(f:α × β->Bool):((xs.zip ys).drop k).any f=(f (x,y) || ((xs.zip ys).drop (k+1)).any f):=by
 have h:(xs.zip ys)[k]?=Z (x,y):=by
  rw[List.getElem?_zip_eq_some];exact⟨hx,hy⟩
 obtain⟨hl,he⟩:=QM.1 h;rw[Q6 hl,he,List.any_cons]
theorem Qb {α:Type} {xs:Q α} {x:α} (hx:xs[k]?=Z x)(f:α->Bool):(xs.drop k).any f=(f x || (xs.drop (k+1)).any f):=by
 obtain⟨hl,he⟩:=QM.1 hx;rw[Q6 hl,he,List.any_cons]
theorem zsK (h0:(iL.sl 103).R w w.heap.size [G A0 imgs.length c0] imgs)(h1:(zr.sl 3).R w w.heap.size [G A1 bases.length c1] bases)
  (hl:imgs.length=bases.length) (hst:∀ x∈imgs,∀ y∈x.fm,fT y.Start 0 1000000=M) (hbs:∀ b∈bases,fT b 1 1000000=M) (he:fD e) :
  Rh prog 88 #[.agg #[G A0 imgs.length c0,G A1 bases.length c1,G A2 es.length c2],J C e] w fun r w'=>r=.returned (H (kG ⟨imgs,bases,es⟩ e))/\ft w w':=by
 obtain⟨_,_,a3,aJ,az⟩:=lu h0;injection a3 with e1 e2 e3
 subst e1 e3;clear e2;obtain⟨_,_,a3,aL,aA⟩:=lu h1;injection a3 with e1 e2 e3
 subst e1 e3;clear e2;obtain⟨aB,aC⟩:=he;have HL:=fh (TD hl);have aF:=TD hl;clear hl;go_enter func88,ntmps88;go_wp2_with(fail);have a2:ft w (w.alloc (F #[G A0 imgs.length c0,G A1 bases.length c1,G A2 es.length c2] 28)):=gG;have eb:=QO w (F #[G A0 imgs.length c0,G A1 bases.length c1,G A2 es.length c2] 28);have k0:=Ty.up _ h0 a2;have k1:=Ty.up _ h1 a2;obtain⟨g0,af⟩:∃ g0,w.heap.size=g0:=⟨_,rfl⟩
 rw[af] at eb |-;generalize w.alloc _=Y at a2 eb k0 k1 |-;clear h0 h1 af;obtain⟨y0,y1,_,_,yl⟩:=se eb;go_loopw [12] (fun x wr=>∃ k:Nat,x=J C k/\k<=imgs.length/\Hid (((imgs.zip bases).drop k).any (fun p=>p.1.fm.any fun x=>decide (p.2+x.Start=e))=kG ⟨imgs,bases,es⟩ e)/\Hid (ft Y wr)) (fun x _=>imgs.length-(Ry x).toNat)
 case atStart=>exact⟨0,rfl,QX _,fh rfl,fh (ft.refl _)⟩
 case round=>
  obtain⟨k,rfl,hk,hE,hG⟩:=hrel;obtain⟨os,d,rfl⟩:=hG.out;clear hG;by_cases hlt:k<imgs.length
  ·obtain⟨g,aM,x,A,c,rfl,aD,aa,a8,a9,ah,a5⟩:=qW k0 hlt
   obtain⟨gb,ap,b,rfl,ab,ae,ar,au⟩:=lI k1 (k:=k) (by omega);have ay:=zu.1 (hbs b (Q9 ab));have ag:=hst x (Q9 aa);have hz:=PX aa ab (fun p=>p.1.fm.any fun x=>decide (p.2+x.Start=e));rw[hE.out] at hz;simp only at hz;have HZ:=fh hz;have ac:=zd a8 os d;have ad:=zd a9 os d;have aE:(k:Int)<(imgs.length:Int):=by omega
   have aj:(k:Int)<(bases.length:Int):=by omega
   obtain⟨code,a0⟩:=x;simp only at ac ad ah a5 ag HZ a8 a9;obtain⟨_,_,a3,aH,aI⟩:=lu a5;injection a3 with e1 e2 e3
   subst e1 e3;clear e2 hz hE aa;go_wp2_with(fail);have a1:ft Y ((fx Y os d).alloc (F #[V code,G A a0.length c] 103)):=gG;have ei:=QO (fx Y os d) (F #[V code,G A a0.length c] 103);obtain⟨gi,a6⟩:∃ gi,(fx Y os d).heap.size=gi:=⟨_,rfl⟩
   rw[a6] at ei;rw[lr] at a6;rw[a6];generalize (fx Y os d).alloc _=QH at a1 ei |-;obtain⟨v0,v1,_,_,vl⟩:=kI ei;have u1:=jY a1 y1;have ul:g0<QH.heap.size:=QS yl a1.size;have ub:=jY a1 ae;have aq:=RE _ _ ub;simp only at aq;have ks:=Ty.up _ a5 a1;clear ac ad a8 a9 a6 a5 ae;go_loopw [20] (fun x we=>∃ m:Nat,x=J C m/\m<=a0.length/\Hid ((a0.drop m).any (fun x=>decide (b+x.Start=e))=a0.any (fun x=>decide (b+x.Start=e)))/\Hid (ft QH we)) (fun x _=>a0.length-(Ry x).toNat)
   case atStart=>exact⟨0,rfl,QX _,fh rfl,fh (ft.refl _)⟩
   case round=>
    obtain⟨m,rfl,hm,hI,hG⟩:=hrel;obtain⟨a4,d2,rfl⟩:=hG.out;clear hG;by_cases hml:m<a0.length
    ·obtain⟨g2,ao,y,rfl,ai,a7,al,am,an,av,aw,ax⟩:=qm ks hml
     have aK:=zu.1 (ag y (Q9 a7));have ha:=Qb a7 (fun x=>decide (b+x.Start=e));rw[hI.out] at ha;have n0:=zd al a4 d2;have n1:=zd am a4 d2;have n2:=zd an a4 d2;have aN:=zd u1 a4 d2;have aO:=zd ub a4 d2;have aG:(m:Int)<(a0.length:Int):=by omega
     have w1:QP C (b+y.Start)=b+y.Start:=RU _ (by omega);by_cases hq:b+y.Start=e
     ·have HQ:=fh (show kG ⟨imgs,bases,es⟩ e=M from by rw[HZ.out,ha];simp[hq])
      have ak:(b+y.Start == e)=M:=by simp[hq]
      clear ha hq a7 hI;go_wp2_with(fail);go_quiet (fail);go_wp2_with(fail);go_ret;exact⟨zo HQ.out.symm,(a2.trans a1).trans gF⟩
     ·have ak:(b+y.Start == e)=I:=by simp[hq]
      have HA:=fh (show (a0.drop (m+1)).any (fun x=>decide (b+x.Start=e))=a0.any (fun x=>decide (b+x.Start=e)) from by rw[ha];simp[hq]);clear ha hq a7 hI;go_wp2_with(fail);go_quiet (fail);go_wp2_with(fail);go_roundw;exact⟨m+1,by go_num,by omega,HA,fh gG⟩;exact gH
    ·obtain rfl:m=a0.length:=by omega
     have HF:=fh (show ((imgs.zip bases).drop (k+1)).any (fun p=>p.1.fm.any fun x=>decide (p.2+x.Start=e))=kG ⟨imgs,bases,es⟩ e from by
      have:=hI.out;rw[Rq] at this;rw[HZ.out,<-this]
      simp)
     clear hI;go_wp2_with(fail);go_roundw;exact⟨k+1,by go_num,by omega,HF,fh (a1.trans gF)⟩;exact gH
  ·obtain rfl:k=imgs.length:=by omega
   have HF:=fh (show kG ⟨imgs,bases,es⟩ e=I from by
    rw[<-hE.out,SX (by rw[List.length_zip];omega)]
    rfl)
   clear hE;go_wp2_with(fail);go_ret;exact⟨zo HF.out.symm,a2.trans gF⟩
theorem FP (h:jr i=M):∀ y∈i.fm,fT y.Start 0 1000000=M:=by
 simp only[jr,Q4,Rg] at h;intro y hy;obtain⟨_,h1,h2⟩:=Ap h.1 i.fm [] 0 0 h.2 y hy;exact pU (by omega) (by omega)
theorem AP {α:Type} {l:Q α} (h:l.length=2):∃ a b,l = [a,b]:=by
 match l,h with
 | [a,b],_=>exact⟨a,b,rfl⟩
theorem F1 {e:TypeId} {j:gu} (h:(iL.sl e).R w B [G A0 n c0] [i,j]):∃ g off A c A' c',A0=Z ⟨g,off,D⟩/\g<B/\QL w ⟨g,off,D⟩=Z (V i.Code)/\QL w ⟨g,off+1,D⟩=Z (G A i.fm.length c)/\QL w ⟨g,off+2,D⟩=Z (V j.Code)/\QL w ⟨g,off+2+1,D⟩=Z (G A' j.fm.length c')/\
  i.Code.size<=9223372036854775807/\j.Code.size<=9223372036854775807/\(ji.sl 137).R w B [G A i.fm.length c] i.fm/\(ji.sl 137).R w B [G A' j.fm.length c'] j.fm:=by
 obtain⟨g,off,x,A,c,rfl,aa,a2,a0,a1,a6,a7⟩:=qW h (k:=0) (by simp);obtain⟨g',ac,y,A',c',he,ab,a5,a3,a4,a8,a9⟩:=qW h (k:=1) (by simp);injection he with he
 injection he with e1 e2
 subst e1 e2;simp only[RA,Sw,Rv] at a2 a5;subst a2 a5;simp only[Ux,TV,RK] at a0 a1 a3 a4;exact⟨g,off,A,c,A',c',rfl,aa,a0,a1,a3,a4,a6,a8,a7,a9⟩
theorem GA {e:TypeId} (h:(zr.sl e).R w B [G A0 n c0] [a,b]):∃ g off,A0=Z ⟨g,off,D⟩/\QL w ⟨g,off,D⟩=Z (J C a)/\QL w ⟨g,off+1,D⟩=Z (J C b)/\fD a/\fD b:=by
 obtain⟨g,off,x,rfl,a1,a0,a3,a4⟩:=lI h (k:=0) (by simp);obtain⟨g',a8,y,he,a2,a7,a5,a6⟩:=lI h (k:=1) (by simp);injection he with he
 injection he with e1 e2
 subst e1 e2;simp only[RA,Sw,Rv] at a1 a2;subst a1 a2;simp only[RK] at a0;exact⟨g,off,rfl,a0,a7,⟨a3,a4⟩,⟨a5,a6⟩⟩
def pa (i j:gu)(a b:Int):Bool:=decide (0<i.Code.size) && decide (0<j.Code.size) && decide (a<b+j.Code.size) && decide (b<a+i.Code.size)
theorem FO {i j:gu}{a b:Int}{es:Q Int}:zU ⟨[i,j],[a,b],es⟩=(fT es.length 1 6 && (jr i && jr j) && (fT a 1 1000000 && fT b 1 1000000) && !pa i j a b && es.all (kG ⟨[i,j],[a,b],es⟩)):=by
 simp[zU,AQ,pa]
theorem FN (h:s.fq.length≠2):zU s=I:=by
 unfold zU;rw[QT h];simp
theorem FK (h:s.fu.length≠2):zU s=I:=by
 unfold zU;rw[QT h];simp
theorem FM (h:fT s.Entries.length 1 6=I):zU s=I:=by
 unfold zU;rw[h];simp
theorem EU {j:gu} (h0:(iL.sl 103).R w w.heap.size [G A0 2 c0] [i,j])(h1:(zr.sl 3).R w w.heap.size [G A1 2 c1] [a,b])
  (hi:jr i=M) (hj:jr j=M) (ha:fT a 1 1000000=M) (hb:fT b 1 1000000=M) (he:fD e) :
  Rh prog 88 #[.agg #[G A0 2 c0,G A1 2 c1,G A2 es.length c2],J C e] w fun r w'=>r=.returned (H (kG ⟨[i,j],[a,b],es⟩ e))/\ft w w':=
 zsK (imgs:=[i,j]) (bases:=[a,b]) h0 h1 rfl (fun x hx=>by
  simp only[Rp,RO,SH] at hx;rcases hx with rfl | rfl
  ·exact FP hi
  ·exact FP hj) (fun x hx=>by
  simp only[Rp,RO,SH] at hx;rcases hx with rfl | rfl
  ·exact ha
  ·exact hb) he
theorem AY {α:Type} {xs:Q α} {x:α} (hx:xs[k]?=Z x)(f:α->Bool):(xs.drop k).all f=(f x && (xs.drop (k+1)).all f):=by
 obtain⟨hl,he⟩:=QM.1 hx;rw[Q6 hl,he,List.all_cons]
theorem yB {g:Prop} (f:g:=by
  by_cases q0:(0:Int)<(i.Code.size:Int)
  ·have r0:decide ((0:Int)<(i.Code.size:Int))=M:=QY q0
   have s0:0<i.Code.size:=by omega
   have t0:decide (0<i.Code.size)=M:=QY s0
   by_cases q1:(0:Int)<(j.Code.size:Int)
   ·have r1:decide ((0:Int)<(j.Code.size:Int))=M:=QY q1
    have s1:0<j.Code.size:=by omega
    have t1:decide (0<j.Code.size)=M:=QY s1
    by_cases q2:a<b+(j.Code.size:Int)
    ·have r2:decide (a<b+(j.Code.size:Int))=M:=QY q2
     by_cases q3:b<a+(i.Code.size:Int)
     ·have r3:decide (b<a+(i.Code.size:Int))=M:=QY q3
      go_quiet (fail)
      go_wp2_with(fail)
      go_meet
      exact⟨by unfold pa;rw[t0,t1,r2,r3];simp,fh gG⟩
     ·have r3:decide (b<a+(i.Code.size:Int))=I:=QT q3
      go_quiet (fail)
      go_wp2_with(fail)
      go_meet
      exact⟨by unfold pa;rw[t0,t1,r2,r3];simp,fh gG⟩
    ·have r2:decide (a<b+(j.Code.size:Int))=I:=QT q2
     go_quiet (fail)
     go_wp2_with(fail)
     go_meet
     exact⟨by unfold pa;rw[t0,t1,r2];simp,fh gG⟩
   ·have r1:decide ((0:Int)<(j.Code.size:Int))=I:=QT q1
    have s1:¬ 0<j.Code.size:=by omega
    have t1:decide (0<j.Code.size)=I:=QT s1
    go_quiet (fail)
    go_wp2_with(fail)
    go_meet
    exact⟨by unfold pa;rw[t0,t1];simp,fh gG⟩
  ·have r0:decide ((0:Int)<(i.Code.size:Int))=I:=QT q0
   have s0:¬ 0<i.Code.size:=by omega
   have t0:decide (0<i.Code.size)=I:=QT s0
   go_quiet (fail)
   go_wp2_with(fail)
   go_meet
   exact⟨by unfold pa;rw[t0];simp,fh gG⟩):g:=f
theorem uN {g:Prop} (f:g:=by
  have HF:=fh (show zU ⟨[i,j],[a,b],es⟩=M from by rw[HQ.out,<-hE.out,Rq];rfl)
  clear hE
  go_wp2_with(fail)
  go_ret
  exact⟨zo HF.out.symm,hGc.trans gF⟩):g:=f
theorem uY {g:Prop} (f:g:=by
  have HQ:=fh (show zU ⟨[i,j],[a,b],es⟩=I from by rw[HS3.out,hv];rfl)
  clear hv
  go_wp2_with(fail)
  go_ret
  exact⟨zo HQ.out.symm,hGc⟩):g:=f
theorem zeM (h0:(iL.sl 103).R w w.heap.size [G A0 s.fq.length c0] s.fq)(h1:(zr.sl 3).R w w.heap.size [G A1 s.fu.length c1] s.fu)
  (h2:(zr.sl 3).R w w.heap.size [G A2 s.Entries.length c2] s.Entries) (hs:jP s<=1099511627776) :
  Rh prog 45 #[.agg #[G A0 s.fq.length c0,G A1 s.fu.length c1,G A2 s.Entries.length c2]] w fun r w'=>r=.returned (H (zU s))/\ft w w':=by
 by_cases hi:s.fq.length=2
 case neg=>
  have HQ:=fh (FN hi);have p1:((s.fq.length:Int) != 2)=M:=by simp;omega
  clear hi;go_enter func45,ntmps45;go_wp2_with(fail);go_ret;exact⟨zo HQ.out.symm,gG⟩
 by_cases hj:s.fu.length=2
 case neg=>
  have HQ:=fh (FK hj);have p1:((s.fq.length:Int) != 2)=I:=by simp;omega
  have p2:((s.fu.length:Int) != 2)=M:=by simp;omega
  clear hi hj;go_enter func45,ntmps45;go_wp2_with(fail);go_ret;exact⟨zo HQ.out.symm,gG⟩
 cases he:fT s.Entries.length 1 6 with
 | false=>
  have HQ:=fh (FM he);have HE:=fh he;have p1:((s.fq.length:Int) != 2)=I:=by simp;omega
  have p2:((s.fu.length:Int) != 2)=I:=by simp;omega
  clear hi hj he;go_enter func45,ntmps45;go_wp2_with(go_at_call 38;(with_reducible refine(lP _ _ _ _).mono ?_);rw[HE.out];rintro e w1 ⟨rfl,rfl⟩);go_ret;exact⟨zo HQ.out.symm,gG⟩
 | true=>
 obtain⟨ax,am,es⟩:=s;simp only at h0 h1 h2 hi hj he hs |-;have HE:=fh he;have aE:=zu.1 he;obtain⟨i,j,rfl⟩:=AP hi;obtain⟨a,b,rfl⟩:=AP hj;have HS:=fh (@FO i j a b es);rw[he] at HS;clear hi hj he;obtain⟨_,_,aw,aH,aI⟩:=lu h2;injection aw with e1 e2 e3
 subst e1 e3;clear e2;have a8:lV i+lV j+2+2+es.length<=1099511627776:=by simp[jP,lH] at hs;omega
 have ae:i.Code.size<=1099511627776:=by unfold lV at a8;omega
 have af:j.Code.size<=1099511627776:=by unfold lV at a8;omega
 have ah:i.fm.length<=1099511627776:=by unfold lV at a8;have:=ye sJ i.fm;omega
 have ai:j.fm.length<=1099511627776:=by unfold lV at a8;have:=ye sJ j.fm;omega
 clear a8 hs;simp only[Rc,Ru] at h0 h1 |-;go_enter func45,ntmps45;go_wp2_with(go_at_call 38;(with_reducible refine(lP _ _ _ _).mono ?_);rw[HE.out];rintro e w1 ⟨rfl,rfl⟩);have a1:ft w (w.alloc (F #[G A0 2 c0,G A1 2 c1,G A2 es.length c2] 28)):=gG;have eb:=QO w (F #[G A0 2 c0,G A1 2 c1,G A2 es.length c2] 28);have k0:=Ty.up _ h0 a1;have k1:=Ty.up _ h1 a1;have k2:=Ty.up _ h2 a1;obtain⟨g0,ap⟩:∃ g0,w.heap.size=g0:=⟨_,rfl⟩
 rw[ap] at eb |-;generalize w.alloc _=Y at a1 eb k0 k1 k2 |-;clear h0 h1 h2 ap;obtain⟨y0,y1,y2,_,yl⟩:=se eb;obtain⟨gi,oi,Ai,ci,Aj,cj,rfl,aF,i0,i1,j0,j1,aC,aD,ac,ad⟩:=F1 k0;obtain⟨gb,ob,rfl,b0,b1,⟨ay,az⟩,⟨aA,aB⟩⟩:=GA k1;have av:=RE _ _ b0;simp only at av;go_loopw [28] (fun x wr=>((x=J C 0)∨(x=J C 1/\jr i=M/\fT a 1 1000000=M)∨(x=J C 2/\jr i=M/\fT a 1 1000000=M/\jr j=M/\fT b 1 1000000=M))/\Hid (ft Y wr)) (fun x _=>2-(Ry x).toNat)
 case atStart=>exact⟨.inl rfl,fh (ft.refl _)⟩
 case round=>
  obtain⟨a5,hG⟩:=hrel;obtain⟨os,d,rfl⟩:=hG.out;clear hG;rcases a5 with rfl | ⟨rfl,a7,a4⟩ | ⟨rfl,a7,a4,ag,a9⟩
  ·have d0:=zd i0 os d
   have d1:=zd i1 os d;have d2:=zd b0 os d;have z0:=zd y0 os d;have z1:=zd y1 os d;obtain⟨ik,hk⟩:∃ ik,jr i=ik:=⟨_,rfl⟩
   cases ik with
   | false=>
    have HK:=fh hk;have HQ:=fh (show zU ⟨[i,j],[a,b],es⟩=I from by rw[HS.out,hk];simp);clear hk;go_wp2_with(go_at_call 87;(with_reducible refine(zeK (i:=i) (Ty.up _ ac gG) ae ah).mono ?_);rw[HK.out];rintro e w1 ⟨rfl,a3,d1,rfl⟩);go_ret;exact⟨zo HQ.out.symm,a1.trans gF⟩
   | true=>
    obtain⟨bk,hb⟩:∃ bk,fT a 1 1000000=bk:=⟨_,rfl⟩
    cases bk with
    | false=>
     have HK:=fh hk;have HB:=fh hb;have HQ:=fh (show zU ⟨[i,j],[a,b],es⟩=I from by rw[HS.out,hb];simp);clear hk hb
     go_wp2_with(first
      | (go_at_call 87;(with_reducible refine(zeK (i:=i) (Ty.up _ ac gG) ae ah).mono ?_);rw[HK.out];rintro e w1 ⟨rfl,a3,d1,rfl⟩)
      | (go_at_call 38;(with_reducible refine(lP _ _ _ _).mono ?_);rw[HB.out];rintro e w1 ⟨rfl,rfl⟩))
     go_ret;exact⟨zo HQ.out.symm,a1.trans gF⟩
    | true=>
     have HK:=fh hk;have HB:=fh hb;clear hk hb
     go_wp2_with(first
      | (go_at_call 87;(with_reducible refine(zeK (i:=i) (Ty.up _ ac gG) ae ah).mono ?_);rw[HK.out];rintro e w1 ⟨rfl,a3,d1,rfl⟩)
      | (go_at_call 38;(with_reducible refine(lP _ _ _ _).mono ?_);rw[HB.out];rintro e w1 ⟨rfl,rfl⟩))
     go_roundw;exact⟨.inr (.inl ⟨rfl,HK.out,HB.out⟩),fh gG⟩;exact gH
  ·have d0:=zd j0 os d
   have d1:=zd j1 os d;have d2:=zd b1 os d;have z0:=zd y0 os d;have z1:=zd y1 os d;obtain⟨ik,hk⟩:∃ ik,jr j=ik:=⟨_,rfl⟩
   cases ik with
   | false=>
    have HK:=fh hk;have HQ:=fh (show zU ⟨[i,j],[a,b],es⟩=I from by rw[HS.out,hk];simp);clear hk;go_wp2_with(go_at_call 87;(with_reducible refine(zeK (i:=j) (Ty.up _ ad gG) af ai).mono ?_);rw[HK.out];rintro e w1 ⟨rfl,a3,d1,rfl⟩);go_ret;exact⟨zo HQ.out.symm,a1.trans gF⟩
   | true=>
    obtain⟨bk,hb⟩:∃ bk,fT b 1 1000000=bk:=⟨_,rfl⟩
    cases bk with
    | false=>
     have HK:=fh hk;have HB:=fh hb;have HQ:=fh (show zU ⟨[i,j],[a,b],es⟩=I from by rw[HS.out,hb];simp);clear hk hb
     go_wp2_with(first
      | (go_at_call 87;(with_reducible refine(zeK (i:=j) (Ty.up _ ad gG) af ai).mono ?_);rw[HK.out];rintro e w1 ⟨rfl,a3,d1,rfl⟩)
      | (go_at_call 38;(with_reducible refine(lP _ _ _ _).mono ?_);rw[HB.out];rintro e w1 ⟨rfl,rfl⟩))
     go_ret;exact⟨zo HQ.out.symm,a1.trans gF⟩
    | true=>
     have HK:=fh hk;have HB:=fh hb;clear hk hb
     go_wp2_with(first
      | (go_at_call 87;(with_reducible refine(zeK (i:=j) (Ty.up _ ad gG) af ai).mono ?_);rw[HK.out];rintro e w1 ⟨rfl,a3,d1,rfl⟩)
      | (go_at_call 38;(with_reducible refine(lP _ _ _ _).mono ?_);rw[HB.out];rintro e w1 ⟨rfl,rfl⟩))
     go_roundw;exact⟨.inr (.inr ⟨rfl,a7,a4,HK.out,HB.out⟩),fh gG⟩;exact gH
  ·have aj:=zd i0 os d
   have ak:=zd j0 os d;have aa:=zd b0 os d;have ab:=zd b1 os d;have z0:=zd y0 os d;have z1:=zd y1 os d;have z2:=zd y2 os d;have ra:=zu.1 a4;have rb:=zu.1 a9;have al:zU ⟨[i,j],[a,b],es⟩=(!pa i j a b && es.all (kG ⟨[i,j],[a,b],es⟩)):=by rw[HS.out,a7,a4,ag,a9];simp
   have HS3:=fh al;clear al HS;have HI:=fh a7;have HJ:=fh ag;have HA:=fh a4;have HB:=fh a9;clear a7 a4 ag a9;go_wp2_with(fail);go_quiet (fail);have a0:ft Y ((fx Y os d).drewN nq):=gG;generalize (fx Y os d).drewN nq=QJ at a0 |-;clear aj ak aa ab z0 z1 z2;have aj:=jY a0 i0;have ak:=jY a0 j0;have aa:=jY a0 b0;have ab:=jY a0 b1;have z0:=jY a0 y0;have z1:=jY a0 y1;have z2:=jY a0 y2;have w1:QP C (b+(j.Code.size:Int))=b+(j.Code.size:Int):=iw;have w2:QP C (a+(i.Code.size:Int))=a+(i.Code.size:Int):=iw;go_upto_region 10 with fail;go_cut [91] from 60 to 91 (fun r wx=>r=H (pa i j a b)/\Hid (ft QJ wx))
   case first=>
    exact yB
   case rest=>
    obtain⟨rfl,an⟩:=hcut;have a2:ft Y wc:=a0.trans an.out;have hGc:ft w wc:=a1.trans a2;clear aj ak aa ab z0 z1 z2 a0 an;obtain⟨vb,hv⟩:∃ vb,pa i j a b=vb:=⟨_,rfl⟩
    rw[hv];cases vb with
    | true=>
     exact uY
    | false=>
     have HQ:=fh (show zU ⟨[i,j],[a,b],es⟩=es.all (kG ⟨[i,j],[a,b],es⟩) from by rw[HS3.out,hv];rfl);have z0:=jY a2 y0;have z1:=jY a2 y1;have z2:=jY a2 y2;have zl:g0<wc.heap.size:=QS yl a2.size;have m0:=Ty.up _ k0 a2;have m1:=Ty.up _ k1 a2;have m2:=Ty.up _ k2 a2;clear hv HS3 w1 w2;go_wp2_with(fail);go_loopw [95] (fun x wr=>∃ k:Nat,x=J C k/\k<=es.length/\Hid ((es.drop k).all (kG ⟨[i,j],[a,b],es⟩)=es.all (kG ⟨[i,j],[a,b],es⟩))/\Hid (ft wc wr)) (fun x _=>es.length-(Ry x).toNat)
     case atStart=>exact⟨0,rfl,QX _,fh rfl,fh (ft.refl _)⟩
     case round=>
      obtain⟨k,rfl,hk,hE,hG⟩:=hrel;obtain⟨os,d,rfl⟩:=hG.out;clear hG;by_cases hlt:k<es.length
      ·obtain⟨ge,oe,e,rfl,ao,au,aq,ar⟩:=lI m2 hlt
       have ha:=AY ao (kG ⟨[i,j],[a,b],es⟩);rw[hE.out] at ha;have hc:=zd au os d;have aJ:=zd z0 os d;have aK:=zd z1 os d;have aL:=zd z2 os d;have aG:(k:Int)<(es.length:Int):=by omega
       have a6:fD e:=⟨aq,ar⟩
       clear ao hE;obtain⟨vb,hv⟩:∃ vb,kG ⟨[i,j],[a,b],es⟩ e=vb:=⟨_,rfl⟩
       rw[hv] at ha;have HV:=fh hv;clear hv;cases vb with
       | false=>
        have HF:=fh (show zU ⟨[i,j],[a,b],es⟩=I from by rw[HQ.out,ha];rfl);clear ha;go_wp2_with(go_at_call 88;(with_reducible refine(EU (i:=i) (j:=j) (a:=a) (b:=b) (es:=es) (e:=e) (Ty.up _ m0 gG) (Ty.up _ m1 gG) HI.out HJ.out HA.out HB.out a6).mono ?_);rw[HV.out];rintro e w1 ⟨rfl,a3,d1,rfl⟩);go_ret;exact⟨zo HF.out.symm,hGc.trans gF⟩
       | true=>
        have HF:=fh (show (es.drop (k+1)).all (kG ⟨[i,j],[a,b],es⟩)=es.all (kG ⟨[i,j],[a,b],es⟩) from by rw[ha];rfl);clear ha;go_wp2_with(go_at_call 88;(with_reducible refine(EU (i:=i) (j:=j) (a:=a) (b:=b) (es:=es) (e:=e) (Ty.up _ m0 gG) (Ty.up _ m1 gG) HI.out HJ.out HA.out HB.out a6).mono ?_);rw[HV.out];rintro e w1 ⟨rfl,a3,d1,rfl⟩);go_roundw;exact⟨k+1,by go_num,by omega,HF,fh gG⟩;exact gH
      ·obtain rfl:k=es.length:=by omega
       exact uN
theorem CZ {x:gu} (hx:imgs[k]?=Z x)(hb:bases[k]?=Z b)(e:Int):jy (imgs.drop k) (bases.drop k) e k=if b<=e/\e<b+x.Code.size then ((k:Int),e-b) else jy (imgs.drop (k+1)) (bases.drop (k+1)) e (k+1):=by
 obtain⟨h1,rfl⟩:=QM.1 hx;obtain⟨h2,rfl⟩:=QM.1 hb;rw[Q6 h1,Q6 h2];rfl
theorem EI (bases:Q Int)(e:Int)(k:Nat):jy [] bases e k=(-1,-1):=by
 cases bases <;> rfl
def AW (p:Int × Int)(w:U)(r:Ending)(w':U):Prop:=r=.returned (.tuple #[J C p.1,J C p.2])/\ft w w'
theorem Fi {p q:Int × Int} (h:p=q){w w':U}(hG:ft w w'):AW p w (.returned (.tuple #[J C q.1,J C q.2])) w':=by
 subst h;exact⟨rfl,hG⟩
theorem uG {g:Prop} (f:g:=by
  have HQ:=fh (show jy imgs bases e 0=(-1,-1) from by rw[<-hE.out,Rq];exact EI _ _ _)
  have z0:=zd y0 os d
  clear hE
  go_wp2_with(fail)
  go_ret2
  exact Fi (q:=(-1,-1)) HQ.out (hG0.trans gF)):g:=f
theorem vd {g:Prop} (f:g:=by
  clear hz
  go_wp2_with(fail)
  go_quiet (fail)
  go_wp2_with(fail)
  go_roundw
  exact⟨k+1,by go_num,by omega,HE,fh gG⟩
  exact gH):g:=f
theorem vm {g:Prop} (f:g:=by
  go_wp2_with(fail)
  go_quiet (fail)
  go_wp2_with(fail)
  go_ret2
  exact Fi (q:=((k:Int),e-b)) HQ.out (hG0.trans gF)):g:=f
theorem zup (h0:(iL.sl 103).R w w.heap.size [G A0 imgs.length c0] imgs)(h1:(zr.sl 3).R w w.heap.size [G A1 bases.length c1] bases)
  (hl:imgs.length=bases.length) (hst:∀ x∈imgs,x.Code.size<=1099511627776) (hbs:∀ b∈bases,fT b 1 1000000=M) (he:fD e) :
  Rh prog 82 #[.agg #[G A0 imgs.length c0,G A1 bases.length c1,G A2 es.length c2],J C e] w (AW (jy imgs bases e 0) w):=by
 obtain⟨_,_,a1,ao,af⟩:=lu h0;injection a1 with e1 e2 e3
 subst e1 e3;clear e2;obtain⟨_,_,a1,ap,ag⟩:=lu h1;injection a1 with e1 e2 e3
 subst e1 e3;clear e2;obtain⟨ah,ai⟩:=he;have al:=TD hl;clear hl;go_enter func82,ntmps82;go_wp2_with(fail);have hG0:ft w (w.alloc (F #[G A0 imgs.length c0,G A1 bases.length c1,G A2 es.length c2] 28)):=gG;have eb:=QO w (F #[G A0 imgs.length c0,G A1 bases.length c1,G A2 es.length c2] 28);have k0:=Ty.up _ h0 hG0;have k1:=Ty.up _ h1 hG0;obtain⟨g0,a3⟩:∃ g0,w.heap.size=g0:=⟨_,rfl⟩
 rw[a3] at eb |-;generalize w.alloc _=Y at hG0 eb k0 k1 |-;clear h0 h1 a3;obtain⟨y0,y1,_,_,yl⟩:=se eb;go_loopw [6] (fun x wr=>∃ k:Nat,x=J C k/\k<=imgs.length/\Hid (jy (imgs.drop k) (bases.drop k) e k=jy imgs bases e 0)/\Hid (ft Y wr)) (fun x _=>imgs.length-(Ry x).toNat)
 case atStart=>exact⟨0,rfl,QX _,fh rfl,fh (ft.refl _)⟩
 case round=>
  obtain⟨k,rfl,hk,hE,hG⟩:=hrel;obtain⟨os,d,rfl⟩:=hG.out;clear hG;by_cases hlt:k<imgs.length
  ·obtain⟨g,aq,x,A,c,rfl,aj,a2,a7,an,ab,ac⟩:=qW k0 hlt
   obtain⟨gb,a8,b,rfl,a0,a4,a9,aa⟩:=lI k1 (k:=k) (by omega);have ad:=zu.1 (hbs b (Q9 a0));have am:=hst x (Q9 a2);have hz:=CZ a2 a0 e;rw[hE.out] at hz;have ae:=zd a7 os d;have a5:=zd a4 os d;have z0:=zd y0 os d;have z1:=zd y1 os d;have ak:(k:Int)<(imgs.length:Int):=by omega
   have a6:(k:Int)<(bases.length:Int):=by omega
   have w1:QP C (b+(x.Code.size:Int))=b+(x.Code.size:Int):=RU _ (by omega);clear a2 a0 hE;by_cases q0:b<=e
   ·have r0:decide (b<=e)=M:=QY q0
    by_cases q1:e<b+(x.Code.size:Int)
    ·have r1:decide (e<b+(x.Code.size:Int))=M:=QY q1
     have w2:QP C (e-b)=e-b:=RU _ (by omega);have HQ:=fh (show jy imgs bases e 0=((k:Int),e-b) from by rw[hz,Q5 ⟨q0,q1⟩]);clear hz;go_wp2_with(fail);go_quiet (fail);exact vm
    ·have r1:decide (e<b+(x.Code.size:Int))=I:=QT q1
     have HE:=fh (show jy (imgs.drop (k+1)) (bases.drop (k+1)) e (k+1)=jy imgs bases e 0 from by rw[hz,QZ (fun h=>q1 h.2)]);exact vd
   ·have r0:decide (b<=e)=I:=QT q0
    have HE:=fh (show jy (imgs.drop (k+1)) (bases.drop (k+1)) e (k+1)=jy imgs bases e 0 from by rw[hz,QZ (fun h=>q0 h.1)]);exact vd
  ·obtain rfl:k=imgs.length:=by omega
   exact uG
theorem zlc (h0:(iL.sl 103).R w w.heap.size [G A0 imgs.length c0] imgs)(h1:(zr.sl 3).R w w.heap.size [G A1 bases.length c1] bases)
  (hl:imgs.length=bases.length) (hst:∀ x∈imgs,x.Code.size<=1099511627776) (hbs:∀ b∈bases,fT b 1 1000000=M) (he:fD e) :
  Rh prog 129 #[.agg #[G A0 imgs.length c0,G A1 bases.length c1,G A2 es.length c2],J C e] w (AW (jy imgs bases e 0) w):=by
 obtain⟨_,_,a1,aq,ai⟩:=lu h0;injection a1 with e1 e2 e3
 subst e1 e3;clear e2;obtain⟨_,_,a1,ar,aj⟩:=lu h1;injection a1 with e1 e2 e3
 subst e1 e3;clear e2;obtain⟨ak,al⟩:=he;have ao:=TD hl;clear hl;go_enter func129,ntmps129;go_wp2_with(fail);have hG0:ft w (w.alloc (F #[G A0 imgs.length c0,G A1 bases.length c1,G A2 es.length c2] 28)):=gG;have eb:=QO w (F #[G A0 imgs.length c0,G A1 bases.length c1,G A2 es.length c2] 28);have k0:=Ty.up _ h0 hG0;have k1:=Ty.up _ h1 hG0;obtain⟨g0,a4⟩:∃ g0,w.heap.size=g0:=⟨_,rfl⟩
 rw[a4] at eb |-;generalize w.alloc _=Y at hG0 eb k0 k1 |-;clear h0 h1 a4;obtain⟨y0,y1,_,_,yl⟩:=se eb;go_loopw [11] (fun x wr=>∃ k:Nat,x=J C k/\k<=imgs.length/\Hid (jy (imgs.drop k) (bases.drop k) e k=jy imgs bases e 0)/\Hid (ft Y wr)) (fun x _=>imgs.length-(Ry x).toNat)
 case atStart=>exact⟨0,rfl,QX _,fh rfl,fh (ft.refl _)⟩
 case round=>
  obtain⟨k,rfl,hk,hE,hG⟩:=hrel;obtain⟨os,d,rfl⟩:=hG.out;clear hG;by_cases hlt:k<imgs.length
  ·obtain⟨g,au,x,A,c,rfl,am,a2,a8,a9,ad,ae⟩:=qW k0 hlt
   obtain⟨gb,aa,b,rfl,a0,a3,ab,ac⟩:=lI k1 (k:=k) (by omega);have a5:=RE _ _ a3;simp only at a5;have af:=zu.1 (hbs b (Q9 a0));have ap:=hst x (Q9 a2);have hz:=CZ a2 a0 e;rw[hE.out] at hz;have ag:=zd a8 os d;have ah:=zd a9 os d;have a6:=zd a3 os d;have z0:=zd y0 os d;have z1:=zd y1 os d;have an:(k:Int)<(imgs.length:Int):=by omega
   have a7:(k:Int)<(bases.length:Int):=by omega
   have w1:QP C (b+(x.Code.size:Int))=b+(x.Code.size:Int):=RU _ (by omega);have w3:QP C (b+(x.Code.size:Int)-1)=b+(x.Code.size:Int)-1:=RU _ (by omega);clear a2 a0 hE;by_cases q:b<=e/\e<b+(x.Code.size:Int)
   ·have hv:fT e b (b+(x.Code.size:Int)-1)=M:=pU q.1 (by omega)
    have HQ:=fh (show jy imgs bases e 0=((k:Int),e-b) from by rw[hz,Q5 q]);have w2:QP C (e-b)=e-b:=RU _ (by omega);clear hz q;go_wp2_with(fail);go_quiet ((first | (go_at_call 38;with_reducible exact IT hv _ _)));exact vm
   ·have hv:fT e b (b+(x.Code.size:Int)-1)=I:=by
     cases h:fT e b (b+(x.Code.size:Int)-1)
     ·rfl
     ·exact absurd ⟨(zu.1 h).1,by have:=(zu.1 h).2;omega⟩ q
    have HE:=fh (show jy (imgs.drop (k+1)) (bases.drop (k+1)) e (k+1)=jy imgs bases e 0 from by rw[hz,QZ q]);clear hz q;go_wp2_with(fail);go_quiet ((first | (go_at_call 38;with_reducible exact IT hv _ _)));go_wp2_with(fail);go_roundw;exact⟨k+1,by go_num,by omega,HE,fh gG⟩;exact gH
  ·obtain rfl:k=imgs.length:=by omega
   exact uG
end Go.Proofs.YthgbglbaemelhaaGreat
