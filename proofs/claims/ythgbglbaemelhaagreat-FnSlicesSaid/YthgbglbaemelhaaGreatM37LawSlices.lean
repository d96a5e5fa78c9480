/-
  PART.
-/
import Derived.Test.YthgbglbaemelhaaGreatM36LawSlices
set_option linter.unusedVariables false
set_option linter.unusedSimpArgs false
set_option maxRecDepth 100000
set_option maxHeartbeats 8000000
namespace Go.Proofs.YthgbglbaemelhaaGreat
open Value renaming slice->G,int->J,bool->H,string->V
open IntKind renaming i64->C,wrap->QP
open Option renaming none->D,some->Z
open Obj renaming cells->F
open Bool renaming false->I,true->M
open Go renaming World->U,Calls->Rh,Addr->Ri
open World renaming cell?->QL,frozen?->Rb
open RowKit renaming intOf->Ry
open _root_.Nat renaming add_zero->RK
open Tryz
open Go.RowKit
variable {W:U}{d:gE}{e:TypeId}{g n z:Nat}{s:N}
def Dg (p:Q fQ × Bool)(w:U)(e:Ending)(w':U):Prop:=∃ A c S,e=.returned (.tuple #[G A p.1.length c,H p.2])/\Has (kE.sl 214) w' [G A p.1.length c] p.1 S/\(∀ b∈S,w.heap.size<=b)/\ft w w'
theorem FY {α:Type} {T:Ty α} {off c:Nat} {xs:Q α} {S:Q Nat} (h:Has (T.sl e) W [G (Z ⟨g,off,D⟩) n c] xs S):g∈S:=by
 obtain⟨⟨A',c',a0,S',hv,_,_,rfl⟩,_⟩:=h;injection hv with hv _
 injection hv with hA _ _
 subst hA;simp[kj]
theorem Np (h:iE s 0=(n,z,I)):mV s=([],I):=by
 unfold mV;rw[h];rfl
theorem KI (h:iE s 0=(n,z,M))(h2:lM s n z []=D):mV s=([],I):=by
 unfold mV;rw[h];simp only[Tk];rw[h2]
theorem KK {b:Nat} {l:Q fQ} (h:iE s 0=(n,z,M))(h2:lM s n z []=Z (l,b)):mV s=if oQ l=s then (l,M) else ([],I):=by
 unfold mV;rw[h];simp only[Tk];rw[h2]
theorem rG {g:Prop} (f:g:=by
  go_wp2_with(first
   | (go_at_call 110;(with_reducible refine(zda s (pos:Int) _ hs2 hpI).mono ?_);rw[HP1.out];rintro e w2 ⟨A2,c2,rfl,hF2,hG2⟩)
   | (go_at_call 109;(with_reducible refine(zfD s ((pos:Int)+(m:Int)) _ hs2 hpmI).mono ?_);rw[HP2.out];rintro e w3 ⟨rfl,hG3⟩))
  go_ret2
  exact HB.out _ (((hG.out.trans (ft.trans gF hG2)).trans (ft.trans gF hG3)).trans gF) _ (by have:=hG.out.size;have:=(ft.trans (gF:ft wr _) hG2).size;have:=hG3.size;simp at *;omega) (QO _ _)):g:=f
theorem zt2 (s:N)(w:U)(hs:s.size<=4194304):Rh prog 113 #[V s] w (Dg (mV s) w):=by
 have hs2:s.size<=1099511627776:=by omega
 have ap:fD 0:=⟨by omega,by omega⟩
 have NO:mV s=([],I)->∀ w',ft w w'->∀ g,w.heap.size<=g->w'.heap[g]?=Z (F #[] 214 (0,0))->Dg (mV s) w (.returned (.tuple #[G (Z ⟨g,0,D⟩) 0 0,H I])) w':=fun hn w' hg g hgw hh=>by
  rw[hn];exact⟨_,0,[g],rfl,Has.emp kE hh,fun b hb=>by simp only[QN] at hb;omega,hg⟩
 obtain⟨n,z,ok,hp⟩:∃ n z ok,iE s 0=(n,z,ok):=⟨_,_,_,rfl⟩
 have HP:=fh hp;cases ok
 ·obtain⟨rfl,rfl⟩:=tj hp
  have HB:=fh (NO (Np hp));clear hp NO;go_enter func113,ntmps113;go_wp2_with(go_at_call 108;(with_reducible refine(zdl s 0 _ hs2 ap).mono ?_);rw[HP.out];rintro e w1 ⟨rfl,an,d1,rfl⟩);go_loopw [8] (fun a wr=>a=J C 0/\Hid (ft (fx (w.alloc (F #[] 214)) an d1) wr)) (fun _ _=>0)
  case atStart=>exact⟨rfl,fh gF⟩
  case round=>
   obtain⟨rfl,hG⟩:=hrel;go_wp2_with(fail);go_ret2;exact HB.out _ (((gF:ft w (fx (w.alloc (F #[] 214)) an d1)).trans hG.out).trans gF) _ (by have:=hG.out.size;simp at this;omega) (by first | exact QO _ _ | exact yI _ _)
 ·have aq:=qu hp
  have aF:z<=s.size:=by omega
  have aJ:n<=1099511627775:=aq.2.2.2.2;have ao:Hid (lM s n z []=D->∀ w',ft w w'->∀ g,w.heap.size<=g->w'.heap[g]?=Z (F #[] 214 (0,0))->Dg (mV s) w (.returned (.tuple #[G (Z ⟨g,0,D⟩) 0 0,H I])) w'):=fh (fun h=>NO (KI hp h));have ad:=fh (fun(l:Q fQ) (b:Nat) (h:lM s n z []=Z (l,b))=>KK hp h);clear hp NO aq;go_enter func113,ntmps113;go_wp2_with(go_at_call 108;(with_reducible refine(zdl s 0 _ hs2 ap).mono ?_);rw[HP.out];rintro e w1 ⟨rfl,an,d1,rfl⟩);go_loopw [4,6,8] (fun a p q wr=>∃(k pos:Nat) (a4:Q fQ) (A5:X Ri) (c5:Nat) (S:Q Nat),a=G A5 a4.length c5/\p=J C (pos:Int)/\q=J C (k:Int)/\k<=n/\pos<=s.size/\a4.length<=pos/\Hid (lM s (n-k) pos a4=lM s n z [])/\Hid (ft w wr)/\Hid (Has (kE.sl 214) wr [G A5 a4.length c5] a4 S)/\Hid (∀ b∈S,w.heap.size<=b)) (fun _ _ q _=>n-(Ry q).toNat)
  case atStart=>exact⟨0,z,[],_,0,[w.heap.size],rfl,rfl,rfl,QX _,aF,QX _,fh rfl,fh gF,fh (Has.emp kE (zj (QO w (F #[] 214)) gF)),fh (fun b hb=>by simp only[QN] at hb;omega)⟩
  case round=>
   obtain⟨k,pos,a4,A5,c5,S,rfl,rfl,rfl,hk,aB,aG,HT,hG,hH,hS⟩:=hrel;by_cases hlt:k<n
   ·have aA:(k:Int)<(n:Int):=by omega
    obtain⟨r,hr⟩:∃ r,n-k=r+1:=⟨n-k-1,by omega⟩
    have hT:=HT.out;rw[hr] at hT;obtain⟨l,m,af,a8⟩:∃ l m af,iP s (pos:Int)=(l,m,af):=⟨_,_,_,rfl⟩
    have HP1:=fh a8
    have aI:pos+m<=s.size:=by
     cases af
     ·have:=(AR a8).2;omega
     ·exact(tA a8).2.1
    have hpI:fD (pos:Int):=⟨by omega,by omega⟩
    have aK:QP C ((pos:Int)+(m:Int))=(pos:Int)+(m:Int):=iw;have hpmI:fD ((pos:Int)+(m:Int)):=⟨by omega,by omega⟩
    obtain⟨t,q,ac,ab⟩:∃ t q ac,jB s (pos+m:Nat)=(t,q,ac):=⟨_,_,_,rfl⟩
    have HP2:Hid (jB s ((pos:Int)+(m:Int))=(t,q,ac)):=fh (by rw[<-ab];congr 1)
    have aC:pos+m+q<=s.size/\t.size<=s.size:=by
     cases ac
     ·obtain⟨e1,e2⟩:=Hw ab;subst e1;exact⟨by omega,QX _⟩
     ·have:=tB ab;omega
    have aN:QP C ((k:Int)+1)=(k:Int)+1:=iw;have aL:QP C ((pos:Int)+(m:Int)+(q:Int))=(pos:Int)+(m:Int)+(q:Int):=iw;by_cases hgood:af=M/\ac=M/\l.length=4
    case neg=>
     have aa:lM s (r+1) pos a4=D:=by
      cases af
      ·exact Gd a8
      ·cases ac
       ·exact Ge a8 ab
       ·exact Gf a8 (fun h=>hgood ⟨rfl,rfl,h⟩)
     have HB:=fh (ao.out (by rw[<-hT];exact aa))
     have ai:af=M->ac=M->((l.length:Int) != 4)=M:=fun h1 h2=>by
      simp only[bne_iff_ne];intro h;exact hgood ⟨h1,h2,by omega⟩
     clear aa hT a8 ab hgood ad ao hr;cases af
     ·clear ai
      exact rG
     ·cases ac
      ·clear ai
       exact rG
      ·have aH:=ai rfl rfl
       clear ai;exact rG
    obtain⟨rfl,rfl,h4⟩:=hgood;obtain⟨a0,a1,a2,a3,rfl⟩:=four h4;have ar:Hid (lM s (n-(k+1)) (pos+m+q) (a4++[⟨a0,a1,a2,a3,t⟩])=lM s n z []):=fh (by rw[show n-(k+1)=r by omega,<-hT,Hc a8 ab]);have aM:=(tB ab).1;have ai:((([a0,a1,a2,a3]:Q Int).length:Int) != 4)=I:=rfl;clear a8 ab hr hT
    go_wp2_with(first
     | (go_at_call 110;(with_reducible refine(zda s (pos:Int) _ hs2 hpI).mono ?_);rw[HP1.out];rintro e w2 ⟨A2,c2,rfl,hF2,hG2⟩)
     | (go_at_call 109;(with_reducible refine(zfD s ((pos:Int)+(m:Int)) _ hs2 hpmI).mono ?_);rw[HP2.out];rintro e w3 ⟨rfl,hG3⟩))
    have ae:ft wr w3:=(ft.trans gF hG2).trans (ft.trans gF hG3);obtain⟨g2,a9,au,am,a5⟩:=Ag hF2.read (by simp);subst au;have x0:=zG hG3 (a5 0 a0 rfl).1;have x1:=zG hG3 (a5 1 a1 rfl).1;have x2:=zG hG3 (a5 2 a2 rfl).1;have x3:=zG hG3 (a5 3 a3 rfl).1;rw[RK] at x0;have b0:=(a5 0 a0 rfl).2;have b1:=(a5 1 a1 rfl).2;have b2:=(a5 2 a2 rfl).2;have b3:=(a5 3 a3 rfl).2;have aD:t.size<=9223372036854775807:=by omega
    have az:g2<w3.heap.size:=QS am hG3.size;have av:=hH.out.fx ae;have aE:∀ b∈S,b<wr.heap.size:=hH.out.lt
    have a7:g2∉S:=fun hm=>by
     obtain⟨S2,s1,s2⟩:=hF2.has;have h5:=s2 g2 (FY s1);have h6:=aE g2 hm;have h7:wr.heap.size<=g2:=Rj (ft.size gF) h5;omega
    clear a5;go_region_held3 (fun w'=>QL w' ⟨g2,a9,D⟩=Z (J C a0)/\QL w' ⟨g2,a9+1,D⟩=Z (J C a1)/\QL w' ⟨g2,a9+2,D⟩=Z (J C a2)/\QL w' ⟨g2,a9+3,D⟩=Z (J C a3)) ((repeat' apply QQ) <;> ((repeat (first | with_reducible assumption | with_reducible refine zd ?_ _ _ | with_reducible refine zk ?_ _ | with_reducible refine zc ?_ | with_reducible refine zV ?_ _));done)) (first | (refine zW (L:=a4.length+1) rfl (.tmp 58) (.tmp 73) DX DC (av.fx gF) (W1:=w) (B:=0) (ec:=[J C a0,J C a1,J C a2,J C a3,V t]) (y:=⟨a0,a1,a2,a3,t⟩) (EG (x:=⟨a0,a1,a2,a3,t⟩) b0 b1 b2 b3 aD) rfl rfl rfl (by intro j u hu;simpa[go_sem] using hu) rfl (by omega) (by omega) ?_;intro A8 c8 W8 S8 aj aw ax;have x0:=zz x0 gF aj a7;have x1:=zz x1 gF aj a7;have x2:=zz x2 gF aj a7;have x3:=zz x3 gF aj a7))
    all_goals go_wp2_with(fail)
    all_goals go_roundw
    exact⟨k+1,pos+m+q,a4++[⟨a0,a1,a2,a3,t⟩],A8,c8,S8,by simp,by go_num,by go_num,by omega,aC.1,by simp;omega,ar,fh (aj.fx ((hG.out.trans ae).trans gF) hS.out),fh (by simpa using aw),fh (fun b hb=>(ax b hb).elim (hS.out b) (fun h=>Rj ((hG.out.trans ae).trans gF).size h))⟩;exact gH
   ·obtain rfl:k=n:=by omega
    have aA:¬ ((k:Int)<(k:Int)):=by omega
    have a6:lM s k z []=Z (a4,pos):=by rw[<-HT.out,RP];rfl
    have ah:a4.length<=268435455:=by omega
    by_cases he:oQ a4=s
    ·have HR:Hid (mV s=(a4,M)):=fh (by rw[ad.out a4 pos a6,Q5 he])
     have al:=fh he;have ay:(s.toList != s.toList)=I:=by rw[bne,lp,QY rfl];rfl
     clear he a6;go_wp2_with(go_at_call 122;(with_reducible refine(zkL (xs:=a4) (Ty.up _ hH.out.read gF) ah).mono ?_);rw[al.out];rintro e w9 ⟨rfl,ak⟩);go_ret2;rw[HR.out];exact⟨_,_,S,rfl,hH.out.fx (ft.trans gF ak),hS.out,hG.out.trans (ft.trans gF ak)⟩
    ·have HR:Hid (mV s=([],I)):=fh (by rw[ad.out a4 pos a6,QZ he])
     obtain⟨E,hE⟩:∃ E,oQ a4=E:=⟨_,rfl⟩
     have al:=fh hE;rw[hE] at he;have ay:(E.toList == s.toList)=I:=by rw[lp,QT he]
     clear he hE a6;go_wp2_with(go_at_call 122;(with_reducible refine(zkL (xs:=a4) (Ty.up _ hH.out.read gF) ah).mono ?_);rw[al.out];rintro e w9 ⟨rfl,ak⟩);go_ret2;rw[HR.out];have ag:ft w w9:=hG.out.trans (ft.trans gF ak);exact⟨_,0,[w9.heap.size],rfl,Has.emp kE (QO _ _),fun b hb=>by simp only[QN] at hb;have:=ag.size;omega,ag.trans gF⟩
theorem Bk {o0 o1 o2 o3 o4:Value} (h:W.heap[g]?=Z (F #[o0,o1,o2,o3,o4] e (0,0))) :
  QL W ⟨g,0,D⟩=Z o0/\QL W ⟨g,1,D⟩=Z o1/\QL W ⟨g,2,D⟩=Z o2/\QL W ⟨g,3,D⟩=Z o3/\QL W ⟨g,4,D⟩=Z o4/\(∀ j,Rb W ⟨g,j,D⟩=I)/\g<W.heap.size:=iY h
structure qJ (d:gE):Prop where
 syms:lN d.fm<=1073741824
 rules:d.fY.length<=67108863
 rows:d.Rows.length<=67108863
 inl:d.fI.length<=67108863
theorem Gr (h:¬ (fT d.Id 0 1099511627775=M/\qA 0 d.fY=M/\qC (-1) d.Rows=M/\vK d.fI=M/\d.fm.all sd=M)):mI d=⟨#[]⟩:=by
 unfold mI;rw[QZ h];rfl
theorem zoE {w:U} {A0 A1 A2 A3:X Ri} {c0 c1 c2 c3:Nat} (h0:(ji.sl 137).R w w.heap.size [G A0 d.fm.length c0] d.fm)(h1:(kH.sl 205).R w w.heap.size [G A1 d.fY.length c1] d.fY)
  (h2:(ly.sl 216).R w w.heap.size [G A2 d.Rows.length c2] d.Rows) (h3:(kE.sl 214).R w w.heap.size [G A3 d.fI.length c3] d.fI) (hi:fD d.Id) (hb:qJ d) :
  Rh prog 74 #[.agg #[J C d.Id,G A0 d.fm.length c0,G A1 d.fY.length c1,G A2 d.Rows.length c2,G A3 d.fI.length c3]] w fun e w'=>e=.returned (V (mI d))/\ft w w':=by
 obtain⟨bB,bC,bD,bE⟩:=hb;have bL:=NW d.fm;have a9:=QO w (F #[J C d.Id,G A0 d.fm.length c0,G A1 d.fY.length c1,G A2 d.Rows.length c2,G A3 d.fI.length c3] 108);have a0:ft w (w.alloc (F #[J C d.Id,G A0 d.fm.length c0,G A1 d.fY.length c1,G A2 d.Rows.length c2,G A3 d.fI.length c3] 108)):=gG;obtain⟨gb,ae⟩:∃ g,w.heap.size=g:=⟨_,rfl⟩
 obtain⟨bi,ak⟩:∃ b,fT d.Id 0 1099511627775=b:=⟨_,rfl⟩
 obtain⟨b1,a2⟩:∃ b,qA 0 d.fY=b:=⟨_,rfl⟩
 obtain⟨b2,a3⟩:∃ b,qC (-1) d.Rows=b:=⟨_,rfl⟩
 obtain⟨b3,a4⟩:∃ b,vK d.fI=b:=⟨_,rfl⟩
 have ai:=fh ak;have af:=fh a2;have ag:=fh a3;have ah:=fh a4;by_cases hall:bi=M/\b1=M/\b2=M/\b3=M
 case neg=>
  have HS:=fh (show mI d=⟨#[]⟩ from Gr (by rintro⟨e1,e2,e3,e4,_⟩;exact hall ⟨by rw[<-ak,e1],by rw[<-a2,e2],by rw[<-a3,e3],by rw[<-a4,e4]⟩));clear ak a2 a3 a4;go_enter func74,ntmps74;go_upto_region 1 with(fail);rw[ae] at a9;have aT:=fh ae;clear ae;generalize (w.alloc _)=Y at a9 a0 |-;obtain⟨o0,o1,o2,o3,o4,aM,aN⟩:=Bk a9;clear o1;cases bi
  ·go_wp2_with(first
    | (go_at_call 43;(with_reducible refine(gY _ _ _ _).mono ?_);rw[ai.out];rintro e v1 ⟨rfl,rfl⟩)
    | (go_at_call 114;(with_reducible refine(zec (Ty.up _ h1 (a0.trans gF))).mono ?_);rw[af.out];rintro e v2 ⟨rfl,ab,d2,rfl⟩)
    | (go_at_call 115;(with_reducible refine(ze0 (Ty.up _ h2 (a0.trans gF))).mono ?_);rw[ag.out];rintro e v3 ⟨rfl,ac,d3,rfl⟩)
    | (go_at_call 116;(with_reducible refine(zcN (Ty.up _ h3 (a0.trans gF))).mono ?_);rw[ah.out];rintro e v4 ⟨rfl,ad,d4,rfl⟩))
   go_ret
   exact⟨mH HS.out.symm,a0.trans gF⟩
  ·cases b1
   ·go_wp2_with(first
     | (go_at_call 43;(with_reducible refine(gY _ _ _ _).mono ?_);rw[ai.out];rintro e v1 ⟨rfl,rfl⟩)
     | (go_at_call 114;(with_reducible refine(zec (Ty.up _ h1 (a0.trans gF))).mono ?_);rw[af.out];rintro e v2 ⟨rfl,ab,d2,rfl⟩)
     | (go_at_call 115;(with_reducible refine(ze0 (Ty.up _ h2 (a0.trans gF))).mono ?_);rw[ag.out];rintro e v3 ⟨rfl,ac,d3,rfl⟩)
     | (go_at_call 116;(with_reducible refine(zcN (Ty.up _ h3 (a0.trans gF))).mono ?_);rw[ah.out];rintro e v4 ⟨rfl,ad,d4,rfl⟩))
    go_ret
    exact⟨mH HS.out.symm,a0.trans gF⟩
   ·cases b2
    ·go_wp2_with(first
      | (go_at_call 43;(with_reducible refine(gY _ _ _ _).mono ?_);rw[ai.out];rintro e v1 ⟨rfl,rfl⟩)
      | (go_at_call 114;(with_reducible refine(zec (Ty.up _ h1 (a0.trans gF))).mono ?_);rw[af.out];rintro e v2 ⟨rfl,ab,d2,rfl⟩)
      | (go_at_call 115;(with_reducible refine(ze0 (Ty.up _ h2 (a0.trans gF))).mono ?_);rw[ag.out];rintro e v3 ⟨rfl,ac,d3,rfl⟩)
      | (go_at_call 116;(with_reducible refine(zcN (Ty.up _ h3 (a0.trans gF))).mono ?_);rw[ah.out];rintro e v4 ⟨rfl,ad,d4,rfl⟩))
     go_ret
     exact⟨mH HS.out.symm,a0.trans gF⟩
    ·cases b3
     ·go_wp2_with(first
       | (go_at_call 43;(with_reducible refine(gY _ _ _ _).mono ?_);rw[ai.out];rintro e v1 ⟨rfl,rfl⟩)
       | (go_at_call 114;(with_reducible refine(zec (Ty.up _ h1 (a0.trans gF))).mono ?_);rw[af.out];rintro e v2 ⟨rfl,ab,d2,rfl⟩)
       | (go_at_call 115;(with_reducible refine(ze0 (Ty.up _ h2 (a0.trans gF))).mono ?_);rw[ag.out];rintro e v3 ⟨rfl,ac,d3,rfl⟩)
       | (go_at_call 116;(with_reducible refine(zcN (Ty.up _ h3 (a0.trans gF))).mono ?_);rw[ah.out];rintro e v4 ⟨rfl,ad,d4,rfl⟩))
      go_ret
      exact⟨mH HS.out.symm,a0.trans gF⟩
     ·exact absurd ⟨rfl,rfl,rfl,rfl⟩ hall
 obtain⟨rfl,rfl,rfl,rfl⟩:=hall;have aV:=fh (fun(x:fC) (hx:x∈d.fm) (hn:sd x=I)=>(show mI d=⟨#[]⟩ from Gr (by rintro⟨_,_,_,_,e5⟩;have:=SG.1 e5 x hx;rw[hn] at this;cases this)));have aA:=fh (fun(h:d.fm.all sd=M)=>(show mI d=sO d++jo (tK (sO d)) from by unfold mI;rw[Q5 ⟨ak,a2,a3,a4,h⟩]));clear ak a2 a3 a4;obtain⟨V0,aH⟩:∃ QH,jo d.Id=QH:=⟨_,rfl⟩
 obtain⟨V1,aI⟩:∃ QH,jo (d.fm.length:Int)=QH:=⟨_,rfl⟩
 have bP:V0.size<=6:=by have:=pq d.Id;rwa [aH] at this
 have bQ:V1.size<=6:=by have:=pq (d.fm.length:Int);rwa [aI] at this
 have aO:=fh aH;have aP:=fh aI;clear aH aI;have bF:¬ (9223372036854775807<V0.size+V1.size):=by omega
 go_enter func74,ntmps74;go_upto_region 1 with(fail);rw[ae] at a9;have aT:=fh ae;clear ae;generalize (w.alloc _)=Y at a9 a0 |-;obtain⟨o0,o1,o2,o3,o4,aM,aN⟩:=Bk a9
 go_wp2_with(first
  | (go_at_call 43;(with_reducible refine(gY _ _ _ _).mono ?_);rw[ai.out];rintro e v1 ⟨rfl,rfl⟩)
  | (go_at_call 114;(with_reducible refine(zec (Ty.up _ h1 (a0.trans gF))).mono ?_);rw[af.out];rintro e v2 ⟨rfl,ab,d2,rfl⟩)
  | (go_at_call 115;(with_reducible refine(ze0 (Ty.up _ h2 (a0.trans gF))).mono ?_);rw[ag.out];rintro e v3 ⟨rfl,ac,d3,rfl⟩)
  | (go_at_call 116;(with_reducible refine(zcN (Ty.up _ h3 (a0.trans gF))).mono ?_);rw[ah.out];rintro e v4 ⟨rfl,ad,d4,rfl⟩))
 go_upto_region 3 with(fail);have aQ:ft w (fx (fx (fx Y ab d2) ac d3) ad d4):=a0.trans gF;have aB:=zj a9 (show ft Y (fx (fx (fx Y ab d2) ac d3) ad d4) from gF);generalize (fx (fx (fx Y ab d2) ac d3) ad d4)=Y1 at aB aQ |-;clear o0 o1 o2 o3 o4 aM aN;obtain⟨o0,o1,o2,o3,o4,aM,aN⟩:=Bk aB;obtain⟨E0,aD⟩:∃ E,V0++V1=E:=⟨_,rfl⟩
 have bR:E0.size<=12:=by rw[<-aD,mr];omega
 go_region_held3 (fun w'=>QL w' ⟨gb,0,D⟩=Z (J C d.Id)/\QL w' ⟨gb,1,D⟩=Z (G A0 d.fm.length c0)) ((repeat' apply QQ) <;> ((repeat (first | with_reducible assumption | with_reducible refine zd ?_ _ _ | with_reducible refine zk ?_ _ | with_reducible refine zc ?_ | with_reducible refine zV ?_ _));done)) (first
  | (go_at_call 117;(with_reducible refine(zfs d.Id _).mono ?_);rw[aO.out];rintro e v5 ⟨rfl,bT,d5,rfl⟩)
  | (go_at_call 117;(with_reducible refine(zfs (d.fm.length:Int) _).mono ?_);rw[aP.out];rintro e v6 ⟨rfl,bU,d6,rfl⟩))
 all_goals go_wp2_with(fail)
 all_goals have aS:=fh aD
 all_goals clear aD
 all_goals go_loopw [3,4] (fun a z wr=>∃(k:Nat) (a1:N),a=V a1/\z=J C (k:Int)/\k<=d.fm.length/\a1.size<=1073741900/\Hid (sc (d.fm.drop k) a1=sc d.fm E0)/\Hid ((d.fm.take k).all sd=M)/\Hid (ft Y1 wr)) (fun _ z _=>d.fm.length-(Ry z).toNat)
 all_goals try (case atStart=>exact⟨0,E0,rfl,rfl,QX _,by omega,fh rfl,fh rfl,fh gF⟩)
 case round=>
  obtain⟨k,a1,rfl,rfl,hk,bM,HT,HA,hG⟩:=hrel;have ba:=zj aB hG.out;obtain⟨r0,r1,r2,r3,r4,bX,bY⟩:=Bk ba;have a6:ft w wr:=aQ.trans hG.out;by_cases hlt:k<d.fm.length
  ·have be:(k:Int)<(d.fm.length:Int):=by omega
   obtain⟨g,bS,x,hA,bJ,an,x0,x1,x2,b0,b1,b2⟩:=qm h0 hlt;have a7:=Q9 an;have bO:QP C ((k:Int)+1)=(k:Int)+1:=iw;have x0:=zG a6 x0;have x1:=zG a6 x1;have x2:=zG a6 x2;obtain⟨s1,al⟩:∃ b,fT x.Start 0 1000000=b:=⟨_,rfl⟩
   obtain⟨s2,am⟩:∃ b,fT x.gK 0 1000000=b:=⟨_,rfl⟩
   have ay:=fh al;have az:=fh am;subst hA;go_upto_region 8 with(fail);have aC:=QO wr (F #[V x.Name,J C x.Start,J C x.gK] 137);have ax:ft wr (wr.alloc (F #[V x.Name,J C x.Start,J C x.gK] 137)):=gG;obtain⟨g5,aJ⟩:∃ g,wr.heap.size=g:=⟨_,rfl⟩
   rw[aJ] at aC |-;have bp:=fh aJ;clear aJ;generalize (wr.alloc _)=QB at aC ax |-;obtain⟨p0,p1,p2,pf,bW⟩:=jc aC;by_cases hok:s1=M/\s2=M
   case neg=>
    have HB:=fh (aV.out x a7 (by
     unfold sd;rw[al,am];cases s1
     ·rfl
     ·cases s2
      ·rfl
      ·exact absurd ⟨rfl,rfl⟩ hok))
    clear al am an a7;cases s1
    ·go_wp2_with(first
      | (go_at_call 43;(with_reducible refine(gY x.Start _ _ _).mono ?_);rw[ay.out];rintro e v7 ⟨rfl,rfl⟩)
      | (go_at_call 43;(with_reducible refine(gY x.gK _ _ _).mono ?_);rw[az.out];rintro e v8 ⟨rfl,rfl⟩))
     go_ret
     exact⟨mH HB.out.symm,(a6.trans ax).trans gF⟩
    ·cases s2
     ·go_wp2_with(first
       | (go_at_call 43;(with_reducible refine(gY x.Start _ _ _).mono ?_);rw[ay.out];rintro e v7 ⟨rfl,rfl⟩)
       | (go_at_call 43;(with_reducible refine(gY x.gK _ _ _).mono ?_);rw[az.out];rintro e v8 ⟨rfl,rfl⟩))
      go_ret
      exact⟨mH HB.out.symm,(a6.trans ax).trans gF⟩
     ·exact absurd ⟨rfl,rfl⟩ hok
   obtain⟨rfl,rfl⟩:=hok;have aU:=fh (show sd x=M from by unfold sd;rw[al,am];rfl);have bK:=NX a7;have aK:x.Name.size<=1099511627775:=by omega
   obtain⟨PT,aG⟩:∃ PT,p8 x.Name=PT:=⟨_,rfl⟩
   obtain⟨PI,aF⟩:∃ PI,nW [x.Start,x.gK]=PI:=⟨_,rfl⟩
   have HN:=fh (Oo an a1)
   have b8:=fh (show (d.fm.take (k+1)).all sd=M from by
    rw[RH,an,TQ,HA.out]
    simp[aU.out])
   have aL:vY x=PT++PI:=by rw[<-aG,<-aF];rfl
   have aa:(a1++(PT++PI)).size<=1073741900:=by
    have q1:=(yW (d.fm.drop (k+1)) (a1++vY x)).1;rw[<-HN.out,HT.out,aL] at q1;have q2:=(yW d.fm E0).2;omega
   have aR:a1.size+(PT.size+PI.size)<=1073741900:=by rw[mr,mr] at aa;exact aa
   have HB:=fh aL;have b4:=fh aG;have aZ:=fh aF;clear aG aF aL aa al am an a7;have bb:¬ (9223372036854775807<a1.size+PT.size):=by omega
   have bc:¬ (9223372036854775807<(a1++PT).size+PI.size):=by rw[mr];omega
   have bd:¬ (9223372036854775807<a1.size+PT.size+PI.size):=by omega
   go_wp2_with(first
    | (go_at_call 43;(with_reducible refine(gY x.Start _ _ _).mono ?_);rw[ay.out];rintro e v7 ⟨rfl,rfl⟩)
    | (go_at_call 43;(with_reducible refine(gY x.gK _ _ _).mono ?_);rw[az.out];rintro e v8 ⟨rfl,rfl⟩))
   go_upto_region 10 with(fail)
   go_region_held3 (fun w'=>QL w' ⟨g5,0,D⟩=Z (V x.Name)/\QL w' ⟨g5,1,D⟩=Z (J C x.Start)/\QL w' ⟨g5,2,D⟩=Z (J C x.gK)) ((repeat' apply QQ) <;> ((repeat (first | with_reducible assumption | with_reducible refine zd ?_ _ _ | with_reducible refine zk ?_ _ | with_reducible refine zc ?_ | with_reducible refine zV ?_ _));done)) (first
    | (go_at_call 119;(with_reducible refine(OP (O6 b1 b2 (by simp) (by simp[go_sem]) (by simp[go_sem]))).mono ?_);rw[aZ.out];rintro e v9 ⟨rfl,bV,d9,rfl⟩)
    | (go_at_call 118;(with_reducible refine(ziJ x.Name _ aK).mono ?_);rw[b4.out];rintro e bZ ⟨rfl,bf,bq,rfl⟩))
   all_goals go_wp2_with(fail)
   all_goals go_roundw
   all_goals try (case measure=>simp[Ry];omega)
   all_goals exact⟨k+1,a1++PT++PI,rfl,by go_num,by omega,by rw[mr,mr];omega,fh (by rw[<-HT.out,HN.out,HB.out,R9]),b8,fh ((hG.out.trans ax).trans gF)⟩
  ·obtain rfl:k=d.fm.length:=by omega
   have be:¬ ((d.fm.length:Int)<(d.fm.length:Int)):=by omega
   have aj:a1=sc d.fm E0:=by have h:=HT.out;rw[Rq] at h;exact h
   have a8:d.fm.all sd=M:=by have h:=HA.out;rw[RX] at h;exact h
   obtain⟨T1,ar⟩:∃ T,pj d.fY=T:=⟨_,rfl⟩
   obtain⟨T2,au⟩:∃ T,pv d.Rows=T:=⟨_,rfl⟩
   obtain⟨T3,av⟩:∃ T,oQ d.fI=T:=⟨_,rfl⟩
   have z1:=DJ d.fY;have z2:=DZ d.Rows;have z3:=Ek d.fI;rw[ar] at z1;rw[au] at z2;rw[av] at z3;obtain⟨P1,ao⟩:∃ T,p8 T1=T:=⟨_,rfl⟩
   obtain⟨P2,ap⟩:∃ T,p8 T2=T:=⟨_,rfl⟩
   obtain⟨P3,aq⟩:∃ T,p8 T3=T:=⟨_,rfl⟩
   have y1:=sI T1;have y2:=sI T2;have y3:=sI T3;rw[ao] at y1;rw[ap] at y2;rw[aq] at y3;have t1:T1.size<=1099511627775:=by omega
   have t2:T2.size<=1099511627775:=by omega
   have t3:T3.size<=1099511627775:=by omega
   have a5:sO d=a1++P1++P2++P3:=by
    unfold sO;rw[ar,au,av,ao,ap,aq,aO.out,aP.out,aS.out,<-aj];simp only[R9]
   obtain⟨QC,hF⟩:∃ QC,a1++P1++P2++P3=QC:=⟨_,rfl⟩
   rw[hF] at a5;have bA:QC.size<=12884901888:=by rw[<-hF];simp only[mr];omega
   obtain⟨VS,aw⟩:∃ QH,jo (tK QC)=QH:=⟨_,rfl⟩
   have bN:VS.size<=6:=by have:=pq (tK QC);rwa [aw] at this
   have HR:Hid (mI d=QC++VS):=fh (by rw[aA.out a8,a5,aw]);have b5:=fh ar;have b6:=fh au;have b7:=fh av;have aW:=fh ao;have aX:=fh ap;have aY:=fh aq;have b9:=fh aw;have bb:¬ (9223372036854775807<a1.size+P1.size):=by omega
   have bc:¬ (9223372036854775807<(a1++P1).size+P2.size):=by rw[mr];omega
   have bd:¬ (9223372036854775807<(a1++P1++P2).size+P3.size):=by rw[mr,mr];omega
   have bG:¬ (9223372036854775807<a1.size+P1.size+P2.size):=by omega
   have bH:¬ (9223372036854775807<a1.size+P1.size+P2.size+P3.size):=by omega
   have bI:¬ (9223372036854775807<QC.size+VS.size):=by omega
   have aE:QC.size<=1099511627776:=by omega
   have l1:d.fY.length<=268435455:=by omega
   have l2:d.Rows.length<=268435455:=by omega
   have l3:d.fI.length<=268435455:=by omega
   clear ar au av ao ap aq aw a5 aj a8;go_upto_region 11 with(fail)
   go_region_held3 (fun w'=>QL w' ⟨gb,2,D⟩=Z (G A1 d.fY.length c1)/\QL w' ⟨gb,3,D⟩=Z (G A2 d.Rows.length c2)/\QL w' ⟨gb,4,D⟩=Z (G A3 d.fI.length c3)) ((repeat' apply QQ) <;> ((repeat (first | with_reducible assumption | with_reducible refine zd ?_ _ _ | with_reducible refine zk ?_ _ | with_reducible refine zc ?_ | with_reducible refine zV ?_ _));done)) (first
    | (go_at_call 120;(with_reducible refine(zhP (xs:=d.fY) (Ty.up _ h1 (a6.trans gF)) l1).mono ?_);rw[b5.out];rintro e c4 ⟨rfl,bg,br,rfl⟩)
    | (go_at_call 121;(with_reducible refine(zi2 (xs:=d.Rows) (Ty.up _ h2 (a6.trans gF)) l2).mono ?_);rw[b6.out];rintro e c5 ⟨rfl,bh,bs,rfl⟩)
    | (go_at_call 122;(with_reducible refine(zkL (xs:=d.fI) (Ty.up _ h3 (a6.trans gF)) l3).mono ?_);rw[b7.out];rintro e c6 ⟨rfl,bj,bt,rfl⟩)
    | (go_at_call 118;(with_reducible refine(ziJ T1 _ t1).mono ?_);rw[aW.out];rintro e c7 ⟨rfl,bk,bu,rfl⟩)
    | (go_at_call 118;(with_reducible refine(ziJ T2 _ t2).mono ?_);rw[aX.out];rintro e c8 ⟨rfl,bl,bv,rfl⟩)
    | (go_at_call 118;(with_reducible refine(ziJ T3 _ t3).mono ?_);rw[aY.out];rintro e ca ⟨rfl,bm,bw,rfl⟩))
   all_goals go_wp2_with(first
    | (go_at_call 123;(with_reducible refine(zxe QC _ aE).mono ?_);rintro e cc ⟨rfl,bn,bx,rfl⟩)
    | (go_at_call 117;(with_reducible refine(zfs (tK QC) _).mono ?_);rw[b9.out];rintro e cd ⟨rfl,bo,bz,rfl⟩))
   all_goals go_ret
   all_goals exact⟨mH HR.out.symm,a6.trans gF⟩
end Go.Proofs.YthgbglbaemelhaaGreat
