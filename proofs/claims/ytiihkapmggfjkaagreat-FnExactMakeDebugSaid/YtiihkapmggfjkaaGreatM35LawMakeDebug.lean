/-
  PART.
-/
import Derived.Test.YtiihkapmggfjkaaGreatM34LawMakeDebug
set_option linter.unusedVariables false
set_option linter.unusedSimpArgs false
set_option maxRecDepth 100000
set_option maxHeartbeats 8000000
namespace Go.Proofs.YtiihkapmggfjkaaGreat
open Value renaming slice->J,int->F,bool->X
open IntKind renaming i64->I,wrap->Ll
open Option renaming some->H
open Bool renaming false->U,true->M
open Go renaming World->N,results->Ly,Value->LA,Calls->LR,Addr->Mh,yielded->NA
open _root_.Int renaming toNat_natCast->Lw
open List renaming length_cons->LJ
open RowKit renaming intOf->Ml
open Region renaming wanted->MI,ready->MK,noSelect->ND,free->Oq
open Tryz
open Go.RowKit
variable {A:K Mh}{B:Bool}{L:Q D}{S8 S9 st:Q Nat}{c e i k n:Nat}{p xs:Q fG}{r2:Q Int}{w:N}{x:fG}
def j7 (st:Q Nat):Q Int:=st.reverse.map (fun(e:Nat)=>(e:Int))
theorem v8 (e:Nat)(st:Q Nat):j7 (e::st)=j7 st++[(e:Int)]:=by unfold j7;simp
theorem JT (st:Q Nat):(j7 st).length=st.length:=by unfold j7;simp
theorem JN {k:Int} (h:kn k=M)(h0:k≠0):((k == 3)=M/\True)∨((k == 3)=U/\(k == 5)=M):=by
 unfold kn at h;simp only[NU,LQ] at h;by_cases h3:k=3
 ·exact .inl ⟨LM.2 h3,trivial⟩
 ·exact .inr ⟨Lk.2 h3,LM.2 (by omega)⟩
theorem JO {k:Int} (h:¬ kn k=M):(k == 3)=U/\(k == 5)=U:=by
 unfold kn at h;simp only[NU,LQ] at h;exact⟨Lk.2 (by omega),Lk.2 (by omega)⟩
theorem JZ {m:Nat} (h:∀ b∈S9,n<=b)(h8:∀ b∈S8,b∈S9∨m<=b)(hm:n<=m):∀ b∈S8,n<=b:=fun b hb=>by
 rcases h8 b hb with h1 | h1
 ·exact h b h1
 ·omega
theorem wJ {v Lb W:N} (_h:fJ S9 Lb W)(hg:fF v Lb)(h:∀ b∈S9,v.heap.size<=b)(h8:∀ b∈S8,b∈S9∨Lb.heap.size<=b):∀ b∈S8,v.heap.size<=b:=JZ h h8 hg.size
theorem Jk (hs:mI p k st i)(hx:p[i]?=H x)(h0:x.Kind≠0)(ho:¬ kn x.Kind=M)(hk:k<i)(hie:i<=e)(hE:gg p k e)(hq:r2=j7 st)(hl:st.length<=4)(hnil:i=e->st = []) :
  ∃ st2,Hid (i+1<=e->mI p k st2 (i+1))/\Hid (r2=j7 st2∨r2=j7 st2++[((i+1:Nat):Int)-1])/\Hid (i<e->zu p (i+1)-zu p (k+1)<=4):=by
 by_cases h7:x.Kind=7
 ·by_cases hlt:i<e
  ·obtain⟨r,h1,h2⟩:=Ku hs hE hk hlt hx h7
   refine⟨r,fE (fun _=>h2),fE (.inr ?_),fE (fun _=>?_)⟩
   ·rw[hq,h1,v8,show ((i+1:Nat):Int)-1=(i:Int) from by omega]
   ·have:=vd _ _ h2
    rw[h1] at hl;simp only[LJ] at hl;omega
  ·obtain rfl:i=e:=by omega
   exact⟨[],fE (fun h=>by omega),fE (.inl (by rw[hq,hnil rfl])),fE (fun h=>by omega)⟩
 ·have h2:=Jm hs hx (by simpa using ho) h7
  refine⟨st,fE (fun _=>h2),fE (.inl hq),fE (fun _=>?_)⟩;have:=vd _ _ h2;omega
theorem CQ (hx:p[i]?=H x)(hE:oh p L k (p.drop i) (e-i) i=B)(h0:x.Kind≠0)(hd:i<e->zu p (i+1)-zu p (k+1)<=4)(hn:zB p L x.Expr=M)(hie:i<=e):oh p L k (p.drop (i+1)) (e-(i+1)) (i+1)=B:=by
 by_cases hlt:i<e
 ·rw[tT hx hlt] at hE
  unfold qi at hE;rw[LK h0,LN (hd hlt),hn] at hE;exact hE
 ·rw[show e-i=0 from by omega] at hE
  rw[show e-(i+1)=0 from by omega,<-hE];cases p.drop (i+1) <;> cases p.drop i <;> rfl
theorem CK (hx:p[i]?=H x)(hE:oh p L k (p.drop i) (e-i) i=B)(hn:zB p L x.Expr=U)(hie:i<=e)(he:i=e->x.Expr = []):B=U:=by
 by_cases hlt:i<e
 ·rw[tT hx hlt] at hE
  unfold qi at hE;rw[hn] at hE;rw[<-hE];simp
 ·rw[he (by omega)] at hn
  cases hn
def lenOf:LA->Nat
 | J _ n _=>n
 | _=>0
theorem KA (h:r2=j7 st∨r2=j7 st++[(i:Int)-1]):∃ pp:Bool,Hid ((pp=M/\r2=j7 st++[(i:Int)-1])∨(pp=U/\r2=j7 st)):=by
 rcases h with h | h
 ·exact⟨U,fE (.inr ⟨rfl,h⟩)⟩
 ·exact⟨M,fE (.inl ⟨rfl,h⟩)⟩
theorem I7 {pp:Bool} (h:(pp=M/\r2=j7 st++[(i:Int)-1])∨(pp=U/\r2=j7 st))(hs:mI p k st i):(r2.length=0/\pp=U)∨∃(m:Nat)(v:Int),r2.length=m+1/\r2[m]?=H v/\pp=decide (v<(i:Int)):=by
 rcases h with⟨rfl,rfl⟩ | ⟨rfl,rfl⟩
 ·refine .inr ⟨(j7 st).length,(i:Int)-1,by simp,by simp,?_⟩
  rw[LN (by omega)]
 ·cases st with
  | nil=>exact .inl ⟨rfl,rfl⟩
  | cons e r=>
   have:=Ev _ _ hs e (by simp);refine .inr ⟨(j7 r).length,(e:Int),by rw[v8];simp,by rw[v8];simp,?_⟩;rw[LK (by omega)]
theorem Ju (h:(M=M/\r2=j7 st++[(i:Int)-1])∨(M=U/\r2=j7 st)):∃ m,r2.length=m+1/\r2=j7 st++[(i:Int)-1]:=by
 rcases h with⟨_,h⟩ | ⟨h,_⟩
 ·exact⟨(j7 st).length,by rw[h];simp,h⟩
 ·cases h
theorem I8 (h:(U=M/\r2=j7 st++[(i:Int)-1])∨(U=U/\r2=j7 st)):r2=j7 st:=by
 rcases h with⟨h,_⟩ | ⟨_,h⟩
 ·cases h
 ·exact h
theorem zqM (hx:(zM.sl 87).R w w.heap.size [J A xs.length c] xs)(hl:xs.length<=1099511627776)(hs:∀ x∈xs,x.fP.length<=1099511627776/\x.Expr.length<=1099511627776)(hends:gg xs k e)(hend:∀ x,xs[e]?=H x->x.Expr = []) :
  LR prog 109 #[J A xs.length c,F I k,F I e] w fun r w'=>r=.returned (X (l3 xs k e))/\fF w w':=by
 have b9:=hends.len;have bp:=hends.lt;have au:=fE hends;obtain⟨L,hL⟩:∃ L,zq xs k=L:=⟨_,rfl⟩
 have aI:=zg7 (k:=(k:Int)) hx hl hs;rw[hL] at aI;obtain⟨B,hB⟩:∃ B,oh xs L k (xs.drop (k+1)) (e-(k+1)) (k+1)=B:=⟨_,rfl⟩
 have aj:Hid (l3 xs k e=(decide (L.length<=8) && B)):=fE (by unfold l3;rw[hL,hB]);have HB:=fE hB;clear hL hB;by_cases h8:8<L.length
 ·have HF:Hid (l3 xs k e=U):=fE (by rw[aj.out,LK (by omega)];rfl)
  have aZ:(L.length:Int) > 8:=by omega
  clear h8 hends;go_enter func109,ntmps109;go_wp2_with(first | (go_at_call 190;(with_reducible refine aI.mono ?_);rintro e1 v1 ⟨AL,cL,SL,rfl,aT,b3,a1⟩))
  all_goals exact Ln (v:=X U) (by simp[Ly,results109,go_sem]) rfl ⟨by rw[HF.out],a1.trans gF⟩
 have ai:Hid (l3 xs k e=B):=fE (by rw[aj.out,LN (by omega)];rfl);have ay:L.length<=8796093022208:=by omega
 have aZ:¬ ((L.length:Int) > 8):=by omega
 have bm:¬ (8<(L.length:Int)):=by omega
 have bu:Ll I ((k:Int)+1)=(k:Int)+1:=iw;clear h8 hends;go_enter func109,ntmps109;go_wp2_with(first | (go_at_call 190;(with_reducible refine aI.mono ?_);rintro e1 v1 ⟨AL,cL,SL,rfl,aT,b3,a1⟩));have av:Hid ((iH.sl 9).R v1 v1.heap.size [J AL L.length cL] L):=fE aT.read;go_loopw [8,9] (fun z j wr=>∃(i:Nat) (st:Q Nat) (aa:Q Int) (A8:K Mh) (c8:Nat) (S8:Q Nat),z=J A8 aa.length c8/\j=F I i/\k<i/\i<=e+1/\aa.length<=4/\Hid (i<=e->mI xs k st i)/\Hid (aa=j7 st∨aa=j7 st++[(i:Int)-1])/\Hid (fF v1 wr)/\Hid (Has (zF.sl 3) wr [J A8 aa.length c8] aa S8)/\Hid (∀ b∈S8,v1.heap.size<=b)/\Hid (oh xs L k (xs.drop i) (e-i) i=B)) (fun _ j _=>e+1-(Ml j).toNat)
 case atStart=>exact⟨k+1,[],[],_,0,[v1.heap.size],rfl,by go_num,by omega,by omega,by simp,fE (fun _=>rfl),fE (.inl rfl),fE gF,fE (Has.emp zF (zj (Lp _ _) gF)),fE (fun b hb=>by simp only[Lr] at hb;omega),HB⟩
 case round=>
  obtain⟨i,st,aa,A8,c8,S8,rfl,rfl,aG,b4,bq,aO,aq,hG,hH,hS,hE⟩:=hrel;by_cases hie:i<=e
  ·have b6:(i:Int)<=(e:Int):=by omega
   have b5:(i:Int)<(xs.length:Int):=by omega
   obtain⟨g,bv,x,bi,bk,bj,bl,rfl,bo,ar,x0,x1,x2,x3,b0,b1,_,h3⟩:=jb hx (show i<xs.length by omega);have HX:=fE ar;have aA:=(hs x (LP ar)).2;have ak:Hid (i=e->x.Expr = []/\x.Kind=7/\st = []):=fE (fun h=>by subst h;obtain⟨y,hy,h7⟩:=au.out.last;rw[ar] at hy;injection hy with hy;exact⟨hend x ar,hy ▸ h7,Jj (aO.out (Lz _)) au.out⟩);have aE:Hid (mI xs k st i):=fE (aO.out hie);clear ar aO;go_wp2_with(fail);go_loopw [8] (fun z wi=>∃(r2:Q Int) (A9:K Mh) (S9:Q Nat),z=J A9 r2.length c8/\r2.length<=aa.length/\Hid (r2=j7 st∨r2=j7 st++[(i:Int)-1])/\Hid (fF v1 wi)/\Hid (Has (zF.sl 3) wi [J A9 r2.length c8] r2 S9)/\Hid (∀ b∈S9,v1.heap.size<=b)) (fun z _=>(lenOf z))
   case atStart=>exact⟨aa,A8,S8,rfl,Lz _,aq,fE (hG.out.trans gF),fE (hH.out.fO gF),hS⟩
   case round=>
    obtain⟨r2,A9,S9,rfl,aN,aX,a3,aU,ac⟩:=hrel;clear aq hH hS hG;obtain⟨pp,aw⟩:=KA aX.out;have ag:=I7 aw.out aE.out;obtain⟨n,hn⟩:∃ n,r2.length=n:=⟨_,rfl⟩
    rw[hn] at ag aN |-;have ab:=aU.out;rw[hn] at ab;have HN:=fE hn;have bs:=za (a1.trans a3.out) x0;have bt:=za (a1.trans a3.out) x3;go_upto_region 8 with(fail);go_cut [36] from 24 to 37 (fun b wx=>b=X pp/\wr=wx)
    case first=>
     rcases ag with⟨h0,bf⟩ | ⟨m,v,hm,hv,aW⟩
     ·have aM:¬ ((n:Int) > 0):=by omega
      have ap:¬ (0<(n:Int)):=by omega
      clear h0 hn;go_wp2_with(fail);go_meet;exact⟨by rw[bf],rfl⟩
     ·obtain⟨g7,o7,v',b2,aP,vc,_,_⟩:=lR aU.out.read (k:=m) (by omega)
      obtain rfl:v'=v:=by rw[hv] at aP;injection aP with h;exact h.symm
      subst b2;have bh:Ll I ((n:Int)-1)=(m:Int):=by rw[show (n:Int)-1=(m:Int) from by omega];exact iw
      have aM:((n:Int) > 0):=by omega
      have ap:(0<(n:Int)):=by omega
      have bb:(m:Int)<(n:Int):=by omega
      have HM:=fE hm;have aY:=fE aW;clear hm aP hv aW hn;go_wp2_with(fail);go_meet;exact⟨by rw[aY.out],rfl⟩
    case rest=>
     obtain⟨rfl,rfl⟩:=hcut;cases pp with
     | true=>
      obtain⟨m,hm,hq⟩:=Ju aw.out;have ba:n=m+1:=by rw[<-HN.out];exact hm
      have bg:Hid (r2.take m=j7 st):=fE (by rw[hq,N1 (by rw[hq,Lj] at hm;simp at hm;omega),MA (by rw[hq,Lj] at hm;simp at hm;omega)]);have aJ:Hid ((j7 st).length=m):=fE (by rw[hq,Lj] at hm;simp at hm;omega);obtain⟨br,_⟩:=ud kJ ab.read (k:=m) (by omega);have hcut:=fE (Has.cut (T:=zF) (fun h=>h.2.2.2) ab (k:=m) (by omega));have bh:Ll I ((n:Int)-1)=(m:Int):=by rw[show (n:Int)-1=(m:Int) from by omega];exact iw
      have bb:m<n:=by omega
      clear hq hm ba hn;go_wp2_with(fail);go_roundw
      case measure=>(simp[lenOf];try omega)
      case rel=>exact⟨j7 st,_,S9,by rw[aJ.out],by rw[aJ.out];omega,fE (.inl rfl),fE (a3.out.trans gF),fE (by have h:=hcut.out;rw[bg.out] at h;rw[aJ.out];exact h.fO gF),ac⟩
     | false=>
      have HQ:Hid (r2=j7 st):=fE (I8 aw.out);have bc:n<=4:=by omega
      have aR:Hid (n=st.length):=fE (by rw[<-hn,HQ.out,JT]);have aV:¬ ((n:Int) > 4):=by omega
      have aH:¬ (4<(n:Int)):=by omega
      clear ag hn aX aw;by_cases k0:x.Kind=0
      ·have ao:i<e:=Nat.lt_of_le_of_ne hie (fun h=>by have:=(ak.out h).2.1;omega)
       have q0:(x.Kind == 0)=M:=LM.2 k0;have HF:Hid (l3 xs k e=U):=fE (by rw[ai.out,<-hE.out,tT HX.out ao];unfold qi;rw[LN k0];rfl);clear k0;go_wp2_with(fail)
       all_goals exact Ln (v:=X U) (by simp[Ly,results109,go_sem]) rfl ⟨by rw[HF.out],a1.trans (a3.out.trans gF)⟩
      have q0:(x.Kind == 0)=U:=Lk.2 k0;have HK:=fE k0;by_cases ko:kn x.Kind=M
      ·have ao:i<e:=Nat.lt_of_le_of_ne hie (fun h=>by have:=(ak.out h).2.1;rw[this] at ko;revert ko;decide)
       obtain⟨e',a9,b7,b8⟩:=au.out.inner aG ao HX.out ko;have bn:=a9.len;have aC:=fE a9.iy;have al:Hid (i+1<=e->mI xs k (e'::st) (i+1)):=fE (fun _=>Jl aE.out aG HX.out ko a9);have aQ:Hid (zu xs (i+1)-zu xs (k+1)=(n:Int)+1):=fE (by have:=vd _ _ (al.out ao);have h2:=aR.out;simp only[LJ] at this;omega);have az:=JN ko k0;clear ko k0 a9;by_cases hn5:4<n+1
       ·have HF:Hid (l3 xs k e=U):=fE (by rw[ai.out,<-hE.out,tT HX.out ao];unfold qi;rw[aQ.out,LK (show ¬ ((n:Int)+1<=4) by omega)];simp)
        have aK:(n:Int)+1 > 4:=by omega
        have aL:4<(n:Int)+1:=by omega
        have bd:4<=(n:Int):=by omega
        have be:4<=n:=by omega
        rcases az with⟨q3,q5⟩ | ⟨q3,q5⟩
        all_goals
         go_wp2_with(first | (go_at_call 107;(with_reducible refine(za2 (Ty.up _ hx (a1.trans (a3.out.trans gF))) hl).mono ?_);rw[aC.out];rintro e2 v2 ⟨rfl,a7⟩) | (at_builtin;refine zr (W1:=w) (L:=n+1) rfl (.tmp 52) (.tmp 56) kJ zP (S:=S9) (ab.fO (fF.trans (b:=_) gF (a7.trans gF))) (ec:=[F I (e':Int)]) (y:=(e':Int)) (B:=0) ⟨rfl,by omega,by omega⟩ rfl rfl rfl (by intro j u hu;simpa[go_sem] using hu) rfl (by omega) (by omega) ?_;intro A8 aS W8 S8 a4 aF an;have a6:fF v1 W8:=a4.fO (a3.out.trans (fF.trans (b:=_) gF (a7.trans gF))) ac.out;have am:=fE (wJ a4 (a3.out.trans (fF.trans (b:=_) gF (a7.trans gF))) ac.out an);have u3:=za (a1.trans a6) x3))
         all_goals exact Ln (v:=X U) (by simp[Ly,results109,go_sem]) rfl ⟨by rw[HF.out],a1.trans (fF.trans (b:=_) a6 gF)⟩
       ·have aB:Hid (i<e->zu xs (i+1)-zu xs (k+1)<=4):=fE (fun _=>by rw[aQ.out];omega)
        have aK:¬ ((n:Int)+1 > 4):=by omega
        have aL:¬ (4<(n:Int)+1):=by omega
        obtain⟨ah,af⟩:∃ ah,e'::st=ah:=⟨_,rfl⟩
        obtain⟨a2,a0⟩:∃ a2,r2++[(e':Int)]=a2:=⟨_,rfl⟩
        rw[af] at al;have ae:Hid (a2.length=n+1):=fE (by rw[<-a0,Lj,HN.out];rfl);have ax:Hid (a2=j7 ah∨a2=j7 ah++[((i+1:Nat):Int)-1]):=fE (.inl (by rw[<-a0,<-af,v8,HQ.out]));have aD:=fE a0;clear af a0 hn5;rcases az with⟨q3,q5⟩ | ⟨q3,q5⟩
        all_goals
         rcases LH (zB xs L x.Expr) with a5 | a5
         ·have ad:=fE a5
          have HF:Hid (oh xs L k (xs.drop (i+1)) (e-(i+1)) (i+1)=B):=fE (CQ HX.out hE.out HK.out aB.out a5 hie);clear a5;go_wp2_with(first | (go_at_call 107;(with_reducible refine(za2 (Ty.up _ hx (a1.trans (a3.out.trans gF))) hl).mono ?_);rw[aC.out];rintro e2 v2 ⟨rfl,a7⟩) | (at_builtin;refine zr (W1:=w) (L:=n+1) rfl (.tmp 52) (.tmp 56) kJ zP (S:=S9) (ab.fO (fF.trans (b:=_) gF (a7.trans gF))) (ec:=[F I (e':Int)]) (y:=(e':Int)) (B:=0) ⟨rfl,by omega,by omega⟩ rfl rfl rfl (by intro j u hu;simpa[go_sem] using hu) rfl (by omega) (by omega) ?_;intro A8 aS W8 S8 a4 aF an;have a6:fF v1 W8:=a4.fO (a3.out.trans (fF.trans (b:=_) gF (a7.trans gF))) ac.out;have am:=fE (wJ a4 (a3.out.trans (fF.trans (b:=_) gF (a7.trans gF))) ac.out an);have u3:=za (a1.trans a6) x3) | (go_at_call 191;(with_reducible refine(zjb (Ty.up _ hx (a1.trans (fF.trans (b:=_) a6 gF))) hl (Ty.up _ av.out (fF.trans (b:=_) a6 gF)) ay (Ty.up _ h3 (a1.trans (fF.trans (b:=_) a6 gF))) aA).mono ?_);rw[ad.out];rintro e3 v3 ⟨rfl,a8⟩));go_roundw;exact⟨i+1,ah,a2,_,_,S8,by rw[ae.out],by go_num,by omega,by omega,by rw[ae.out];omega,al,ax,fE (fF.trans (b:=_) a6 (fF.trans (b:=_) gF (a8.trans gF))),fE (by rw[ae.out];exact Has.fO (by have h:=aF;rw[aD.out] at h;exact h) (fF.trans (b:=_) gF (a8.trans gF))),am,HF⟩;exact gL
         ·have ad:=fE a5
          have HF:Hid (l3 xs k e=U):=fE (by rw[ai.out];exact CK HX.out hE.out a5 hie (fun h=>(ak.out h).1));clear a5;go_wp2_with(first | (go_at_call 107;(with_reducible refine(za2 (Ty.up _ hx (a1.trans (a3.out.trans gF))) hl).mono ?_);rw[aC.out];rintro e2 v2 ⟨rfl,a7⟩) | (at_builtin;refine zr (W1:=w) (L:=n+1) rfl (.tmp 52) (.tmp 56) kJ zP (S:=S9) (ab.fO (fF.trans (b:=_) gF (a7.trans gF))) (ec:=[F I (e':Int)]) (y:=(e':Int)) (B:=0) ⟨rfl,by omega,by omega⟩ rfl rfl rfl (by intro j u hu;simpa[go_sem] using hu) rfl (by omega) (by omega) ?_;intro A8 aS W8 S8 a4 aF an;have a6:fF v1 W8:=a4.fO (a3.out.trans (fF.trans (b:=_) gF (a7.trans gF))) ac.out;have am:=fE (wJ a4 (a3.out.trans (fF.trans (b:=_) gF (a7.trans gF))) ac.out an);have u3:=za (a1.trans a6) x3) | (go_at_call 191;(with_reducible refine(zjb (Ty.up _ hx (a1.trans (fF.trans (b:=_) a6 gF))) hl (Ty.up _ av.out (fF.trans (b:=_) a6 gF)) ay (Ty.up _ h3 (a1.trans (fF.trans (b:=_) a6 gF))) aA).mono ?_);rw[ad.out];rintro e3 v3 ⟨rfl,a8⟩))
          all_goals exact Ln (v:=X U) (by simp[Ly,results109,go_sem]) rfl ⟨by rw[HF.out],a1.trans (fF.trans (b:=_) a6 (fF.trans (b:=_) gF (a8.trans gF)))⟩
      ·have az:=JO ko
       obtain⟨q3,q5⟩:=az;obtain⟨ah,al,ax,aB⟩:=Jk aE.out HX.out HK.out ko aG hie au.out HQ.out (by rw[<-aR.out];exact bc) (fun h=>(ak.out h).2.2);obtain⟨a2,a0⟩:∃ a2,r2=a2:=⟨_,rfl⟩
       rw[a0] at ax ab;have ae:Hid (a2.length=n):=fE (by rw[<-a0];exact HN.out);have am:=ac;clear ko k0 a0;rcases LH (zB xs L x.Expr) with a5 | a5
       ·have ad:=fE a5
        have HF:Hid (oh xs L k (xs.drop (i+1)) (e-(i+1)) (i+1)=B):=fE (CQ HX.out hE.out HK.out aB.out a5 hie);clear a5;go_wp2_with(first | (go_at_call 191;(with_reducible refine(zjb (Ty.up _ hx (a1.trans (fF.trans (b:=_) a3.out gF))) hl (Ty.up _ av.out (fF.trans (b:=_) a3.out gF)) ay (Ty.up _ h3 (a1.trans (fF.trans (b:=_) a3.out gF))) aA).mono ?_);rw[ad.out];rintro e3 v3 ⟨rfl,a8⟩));go_roundw;exact⟨i+1,ah,a2,_,_,S9,by rw[ae.out],by go_num,by omega,by omega,by rw[ae.out];omega,al,ax,fE (fF.trans (b:=_) a3.out (fF.trans (b:=_) gF (a8.trans gF))),fE (by rw[ae.out];exact Has.fO ab (fF.trans (b:=_) gF (a8.trans gF))),am,HF⟩;exact gL
       ·have ad:=fE a5
        have HF:Hid (l3 xs k e=U):=fE (by rw[ai.out];exact CK HX.out hE.out a5 hie (fun h=>(ak.out h).1));clear a5;go_wp2_with(first | (go_at_call 191;(with_reducible refine(zjb (Ty.up _ hx (a1.trans (fF.trans (b:=_) a3.out gF))) hl (Ty.up _ av.out (fF.trans (b:=_) a3.out gF)) ay (Ty.up _ h3 (a1.trans (fF.trans (b:=_) a3.out gF))) aA).mono ?_);rw[ad.out];rintro e3 v3 ⟨rfl,a8⟩))
        all_goals exact Ln (v:=X U) (by simp[Ly,results109,go_sem]) rfl ⟨by rw[HF.out],a1.trans (fF.trans (b:=_) a3.out (fF.trans (b:=_) gF (a8.trans gF)))⟩
  ·obtain rfl:i=e+1:=by omega
   have b6:¬ (((e+1:Nat):Int)<=(e:Int)):=by omega
   have HF:Hid (l3 xs k e=M):=fE (by rw[ai.out,<-hE.out,show e-(e+1)=0 from by omega];cases xs.drop (e+1) <;> rfl);go_wp2_with(fail);exact Ln (v:=X M) (by simp[Ly,results109,go_sem]) rfl ⟨by rw[HF.out],a1.trans (hG.out.trans gF)⟩
theorem HU (h:gW ((zk p).length:Int) 1 6=U):zs p=U:=by rw[<-uE];unfold qS;rw[h];simp
theorem H0 (h:p.all ku=U):zs p=U:=by rw[<-uE];unfold qS;rw[h];simp
theorem vZ (h:l6 p (zk p) 0=U):zs p=U:=by rw[<-uE];unfold qS;rw[h];simp
theorem H3 (h:nF (nC p) p 0=U):zs p=U:=by rw[<-uE];unfold qS;rw[h];simp
theorem IS {b:Bool} (h1:p.length<=60)(h2:gW ((zk p).length:Int) 1 6=M)(h3:p.all ku=M)(h4:nD p=M)(h5:l6 p (zk p) 0=b)(h6:nF (nC p) p 0=M):zs p=b:=by
 rw[<-uE];unfold qS;rw[LN h1,h2,h3,h4,h5,h6];simp
theorem D6 (h:xs[i]?=H x):(xs.drop i).all ku=(ku x && (xs.drop (i+1)).all ku):=by
 obtain⟨h1,rfl⟩:=Lh.1 h;rw[LI h1,List.all_cons]
theorem Iz {l:Q Int} {j:Nat} {k n:Int} (h:l[j]?=H k):l6 p (l.drop j) n=(decide (k=n) && (s9 p k && l6 p (l.drop (j+1)) (zJ p k+1))):=by
 obtain⟨h1,rfl⟩:=Lh.1 h;rw[LI h1];rfl
theorem JW (h:p[k]?=H x):s9 p (k:Int)=(decide (zQ p x.Name=k) && (decide (0<=zJ p k) && l3 p k (zJ p k).toNat)):=by
 unfold s9;rw[Lw,h]
def rh (p:Q fG)(i:Nat):Q Int:=(List.range i).map fun(k:Nat)=>zx p (k:Int)
theorem Ga (p:Q fG)(i:Nat):rh p (i+1)=rh p i++[zx p i]:=by unfold rh;rw[List.range_succ,Nu];rfl
theorem vR (p:Q fG)(i:Nat):(rh p i).length=i:=by unfold rh;simp
theorem Ge (h:ku x=M)(h7:x.Kind=7):x.Expr = []:=by
 have h1:=(qg h).2.2.2;unfold px at h1;rw[h7,show mM 7=U from by decide] at h1;exact M3.1 (by simpa using h1)
theorem H8 (k:Nat)(hl:p.length<=60) : -1<=zx p k/\zx p k<=60:=by
 rcases nI p k with h | ⟨j,h,hE⟩
 ·omega
 ·obtain⟨x,hx,_⟩:=hE.np
  have:=(Lh.1 hx).1;omega
theorem Bd {xs:Q Int} {v:Int} (hn:n=xs.length)(hx:(zF.sl 3).R w w.heap.size [J A n c] xs)(hl:xs.length<=8796093022208) :
  LR prog 111 #[J A n c,F I v] w fun e w'=>e=.returned (X (xs.any fun y=>decide (y=v)))/\fF w w':=by
 subst hn;exact vB hx hl
theorem CN (p:Q fG):rh p p.length=nC p:=rfl
theorem pE {g:Prop} (f:g:=by
  go_wp2_with(first | (go_at_call 107;(with_reducible refine(za2 (Ty.up _ hx1 (hG.out.trans gF)) hl).mono ?_);rw[HE.out];rintro e2 v2 ⟨rfl,hg2⟩;have w1:=za (hG.out.trans (fF.trans (b:=_) gF hg2)) x1) | (go_at_call 108;(with_reducible refine(zcL (Ty.up _ hx1 (hG.out.trans (fF.trans (b:=_) gF (hg2.trans gF)))) hl).mono ?_);rintro e3 v3 ⟨rfl,hg3⟩))
  all_goals exact Ln (v:=X U) (by simp[Ly,results41,go_sem]) rfl ⟨by rw[HF.out],hg1.trans (fF.trans (b:=_) hG.out (fF.trans (b:=_) gF (hg2.trans (fF.trans (b:=_) gF (hg3.trans gF)))))⟩):g:=f
theorem rM {g:Prop} (f:g:=by
  go_wp2_with(first | (go_at_call 107;(with_reducible refine(za2 (Ty.up _ hx1 (hG.out.trans gF)) hl).mono ?_);rw[HE.out];rintro e2 v2 ⟨rfl,hg2⟩;have w1:=za (hG.out.trans (fF.trans (b:=_) gF hg2)) x1))
  all_goals exact Ln (v:=X U) (by simp[Ly,results41,go_sem]) rfl ⟨by rw[HF.out],hg1.trans (fF.trans (b:=_) hG.out (fF.trans (b:=_) gF (hg2.trans gF)))⟩):g:=f
theorem pI {g:Prop} (f:g:=by
  go_wp2_with(fail)
  all_goals exact Ln (v:=X U) (by simp[Ly,results41,go_sem]) rfl ⟨by rw[HF.out],hg1.trans (hG.out.trans gF)⟩):g:=f
theorem zav (hx:(zM.sl 87).R w w.heap.size [J A xs.length c] xs)(hl:xs.length<=1099511627776)(hs:∀ x∈xs,x.fP.length<=1099511627776/\x.Expr.length<=1099511627776) :
  LR prog 41 #[J A xs.length c] w fun r w'=>r=.returned (X (zs xs))/\fF w w':=by
 have a9:=zc4 hx hl;obtain⟨FL,af⟩:∃ FL,zk xs=FL:=⟨_,rfl⟩
 have ao:Hid (∀ g∈FL,∃ i:Nat,g=(i:Int)/\∃ x,xs[i]?=H x/\x.Kind=0):=fE (fun g hg=>by rw[<-af] at hg;obtain⟨i,h1,h2⟩:=vC xs 0 g hg;exact⟨i,by simpa using h1,h2⟩);rw[af] at a9;have a2:=fE af;clear af;by_cases h60:60<xs.length
 ·have HF:Hid (zs xs=U):=fE (Dy h60)
  have aq:(xs.length:Int) > 60:=by omega
  clear h60;go_enter func41,ntmps41;go_wp2_with(first | (go_at_call 105;(with_reducible refine a9.mono ?_);rintro e1 v1 ⟨AF,cF,SF,rfl,ag,au,hg1⟩))
  all_goals exact Ln (v:=X U) (by simp[Ly,results41,go_sem]) rfl ⟨by rw[HF.out],hg1.trans gF⟩
 have aq:¬ ((xs.length:Int) > 60):=by omega
 have aS:¬ (60<(xs.length:Int)):=by omega
 rcases LH (gW (FL.length:Int) 1 6) with a4 | a4
 rotate_left
 ·have ad:=fE a4
  have HF:Hid (zs xs=U):=fE (HU (by rw[a2.out];exact a4));clear a4 h60;go_enter func41,ntmps41;go_wp2_with(first | (go_at_call 105;(with_reducible refine a9.mono ?_);rintro e1 v1 ⟨AF,cF,SF,rfl,ag,au,hg1⟩) | (go_at_call 43;(with_reducible refine(jr _ _ _ _).mono ?_);rw[ad.out];rintro e2 v2 ⟨rfl,hv⟩;subst hv))
  all_goals exact Ln (v:=X U) (by simp[Ly,results41,go_sem]) rfl ⟨by rw[HF.out],hg1.trans gF⟩
 have ad:=fE a4;have aJ:=(zX).1 a4;have ai:Hid (xs.length<=60):=fE (by omega)
 have az:0<xs.length:=by
  rcases N3 xs.length with h | h
  ·have:=a2.out;rw[M3.1 h] at this;rw[<-this] at aJ;simp[zk,iS] at aJ
  ·exact h
 clear a4 h60;go_enter func41,ntmps41;go_wp2_with(first | (go_at_call 105;(with_reducible refine a9.mono ?_);rintro e1 v1 ⟨AF,cF,SF,rfl,ag,au,hg1⟩) | (go_at_call 43;(with_reducible refine(jr _ _ _ _).mono ?_);rw[ad.out];rintro e2 v2 ⟨rfl,hv⟩;subst hv));have hx1:=Ty.up _ hx hg1;have aP:Hid ((zF.sl 3).R v1 v1.heap.size [J AF FL.length cF] FL):=fE ag.read;clear ag au a9;go_loopw [27] (fun j wr=>∃(i:Nat),j=F I i/\i<=xs.length/\Hid (fF v1 wr)/\Hid ((xs.drop i).all ku=xs.all ku)) (fun j _=>xs.length-(Ml j).toNat)
 case atStart=>exact⟨0,rfl,Lv _,fE gF,fE rfl⟩
 case round=>
  obtain⟨i,rfl,hi,hG,hE⟩:=hrel;by_cases hlt:i<xs.length
  ·obtain⟨g2,ac,x,aA,aG,aB,aH,rfl,_,a1,x0,x1,x2,x3,b0,b1,h2,h3⟩:=jb hx1 hlt
   have aa:(i:Int)<(xs.length:Int):=by omega
   have v0:=za hG.out x0;have aO:=za hG.out x1;have b2:=za hG.out x2;have v3:=za hG.out x3;obtain⟨aL,aM⟩:=hs x (LP a1);have HX:=fE a1;clear a1 x0 x1 x2 x3;rcases LH (ku x) with a6 | a6
   ·have an:=fE a6
    have HF:Hid ((xs.drop (i+1)).all ku=xs.all ku):=fE (by rw[<-hE.out,D6 HX.out,a6,M4]);clear a6;go_wp2_with(first | (go_at_call 106;(with_reducible refine(znq (x:=x) b1 (Ty.up _ h2 (fF.trans (b:=_) hG.out gF)) (Ty.up _ h3 (fF.trans (b:=_) hG.out gF)) aL aM).mono ?_);rw[an.out];rintro e2 v2 ⟨rfl,hg2⟩));go_roundw;exact⟨i+1,by go_num,by omega,fE (fF.trans (b:=_) hG.out (fF.trans (b:=_) gF (hg2.trans gF))),HF⟩;exact gL
   ·have an:=fE a6
    have HF:Hid (zs xs=U):=fE (H0 (by rw[<-hE.out,D6 HX.out,a6];rfl));clear a6;go_wp2_with(first | (go_at_call 106;(with_reducible refine(znq (x:=x) b1 (Ty.up _ h2 (fF.trans (b:=_) hG.out gF)) (Ty.up _ h3 (fF.trans (b:=_) hG.out gF)) aL aM).mono ?_);rw[an.out];rintro e2 v2 ⟨rfl,hg2⟩))
    all_goals exact Ln (v:=X U) (by simp[Ly,results41,go_sem]) rfl ⟨by rw[HF.out],hg1.trans (fF.trans (b:=_) hG.out (fF.trans (b:=_) gF (hg2.trans gF)))⟩
  ·obtain rfl:i=xs.length:=by omega
   have aa:¬ ((xs.length:Int)<(xs.length:Int)):=by omega
   have aC:Hid (xs.all ku=M):=fE (by rw[<-hE.out,LY];rfl);obtain⟨g,bh,y,b3,b5,b4,b6,rfl,bb,hy,y0,y1,y2,y3,_,_,_,_⟩:=jb hx1 az;simp only[Nat.zero_mul,Nat.add_zero] at y0 y1 y2 y3;have be:(0:Int)<(xs.length:Int):=by omega
   have u0:=za hG.out y0;have u1:=za hG.out y1;have u2:=za hG.out y2;clear hE hlt;by_cases k0:y.Kind=0
   rotate_left
   ·have HF:Hid (zs xs=U):=fE (tj (DC hy k0))
    have q0:(y.Kind != 0)=M:=by rw[jZ,LK k0];rfl
    clear k0 hy;exact pI
   have q0:(y.Kind != 0)=U:=by rw[jZ,LN k0];rfl
   by_cases k1:y.Name=rq
   rotate_left
   ·have HF:Hid (zs xs=U):=fE (tj (DT hy k1))
    have q1:(y.Name.toList == [109,97,105,110])=U:=by rw[<-vY,mw];exact LK k1
    clear k0 k1 hy;exact pI
   have q1:(y.Name.toList == [109,97,105,110])=M:=by rw[<-vY,mw];exact LN k1
   by_cases k2:y.fP.length=0
   rotate_left
   ·have HF:Hid (zs xs=U):=fE (tj (DU hy k2))
    have q2:((y.fP.length:Int) > 0):=by omega
    have aN:(0<(y.fP.length:Int)):=by omega
    clear k0 k1 k2 hy;exact pI
   have q2:¬ ((y.fP.length:Int) > 0):=by omega
   have aN:¬ (0<(y.fP.length:Int)):=by omega
   have HH:=fE (DV hy k0 k1 k2);have b8:=hG;clear k0 k1 k2 hy y0 y1 y2 y3;go_wp2_with(fail);clear u0 u1 u2 q0 q1 q2 aN;go_loopw [57,6] (fun z nx wr=>∃(j n:Nat),z=F I j/\nx=F I n/\j<=FL.length/\n<=xs.length/\Hid (fF v1 wr)/\Hid (l6 xs (FL.drop j) n=l6 xs FL 0)) (fun z _ _=>FL.length-(Ml z).toNat)
   case atStart=>exact⟨0,0,rfl,rfl,Lv _,Lv _,fE (hG.out.trans gF),fE rfl⟩
   case round=>
    clear hG;obtain⟨j,n,rfl,rfl,hj,hn,hG,hE⟩:=hrel;by_cases hlt:j<FL.length
    ·obtain⟨b7,oF,fv,rfl,ax,aK,_,_⟩:=lR aP.out hlt
     obtain⟨k,aX,x,a1,bg⟩:=ao.out fv (LP ax);subst aX;have aY:(j:Int)<(FL.length:Int):=by omega
     have aZ:k<xs.length:=(Lh.1 a1).1;have bd:(k:Int)<(xs.length:Int):=by omega
     obtain⟨g2,ac,x',aA,aG,aB,aH,a3,_,a7,x0,x1,x2,x3,b0,b1,h2,h3⟩:=jb hx1 aZ;injection a3 with a3
     injection a3 with e1 e2
     subst e1 e2;obtain rfl:x'=x:=by rw[a1] at a7;injection a7 with h;exact h.symm
     have f0:=za hG.out aK;have aO:=za hG.out x1;have aD:=fE (Iz (p:=xs) (n:=(n:Int)) ax);have aE:=fE (JW a1);have HX:=fE a1;clear a1 a7 ax aK;rcases pQ xs k with⟨he,_⟩ | ⟨e,he,a0⟩
     ·have HE:=fE he
      have HF:Hid (zs xs=U):=fE (vZ (by rw[a2.out,<-hE.out,aD.out,aE.out,he];simp));clear he;by_cases hkn:(k:Int)=(n:Int)
      ·have q1:((k:Int) != (n:Int))=U:=by rw[jZ,LN hkn];rfl
       by_cases hff:zQ xs x'.Name=(k:Int)
       ·have q2:(zQ xs x'.Name != (k:Int))=U:=by rw[jZ,LN hff];rfl
        clear hff hkn;exact pE
       ·have q2:(zQ xs x'.Name != (k:Int))=M:=by rw[jZ,LK hff];rfl
        clear hff hkn;exact pE
      ·have q1:((k:Int) != (n:Int))=M:=by rw[jZ,LK hkn];rfl
       clear hkn;exact rM
     have HE:=fE he;have ba:=a0.len;have bc:=a0.lt;have b9:¬ ((e:Int)<0):=by omega
     have bf:Ll I ((e:Int)+1)=(e:Int)+1:=iw;have ae:Hid (l6 xs (FL.drop j) n=(decide ((k:Int)=(n:Int)) && ((decide (zQ xs x'.Name=(k:Int)) && l3 xs k e) && l6 xs (FL.drop (j+1)) ((e+1:Nat):Int)))):=fE (by rw[aD.out,aE.out,he,Lw,LN (show (0:Int)<=(e:Int) by omega),M4];rfl)
     have a8:∀ z,xs[e]?=H z->z.Expr = []:=fun z hz=>by
      obtain⟨z',ah,h7⟩:=a0.last;rw[hz] at ah;injection ah with ah
      exact Ge (NL.1 aC.out z (LP hz)) (by rw[ah];exact h7)
     clear he;by_cases hkn:(k:Int)=(n:Int)
     rotate_left
     ·have HF:Hid (zs xs=U):=fE (vZ (by rw[a2.out,<-hE.out,ae.out,LK hkn];rfl))
      have q1:((k:Int) != (n:Int))=M:=by rw[jZ,LK hkn];rfl
      clear hkn a0;exact rM
     have q1:((k:Int) != (n:Int))=U:=by rw[jZ,LN hkn];rfl
     by_cases hff:zQ xs x'.Name=(k:Int)
     rotate_left
     ·have HF:Hid (zs xs=U):=fE (vZ (by rw[a2.out,<-hE.out,ae.out,LK hff];simp))
      have q2:(zQ xs x'.Name != (k:Int))=M:=by rw[jZ,LK hff];rfl
      clear hff hkn a0;exact pE
     have q2:(zQ xs x'.Name != (k:Int))=U:=by rw[jZ,LN hff];rfl
     rcases LH (l3 xs k e) with hb | hb
     ·have aj:=fE hb
      have HF:Hid (l6 xs (FL.drop (j+1)) ((e+1:Nat):Int)=l6 xs FL 0):=fE (by rw[<-hE.out,ae.out,LN hkn,LN hff,hb];rfl);clear hff hkn hb;go_wp2_with(first | (go_at_call 107;(with_reducible refine(za2 (Ty.up _ hx1 (hG.out.trans gF)) hl).mono ?_);rw[HE.out];rintro e2 v2 ⟨rfl,hg2⟩;have w1:=za (hG.out.trans (fF.trans (b:=_) gF hg2)) x1) | (go_at_call 108;(with_reducible refine(zcL (Ty.up _ hx1 (hG.out.trans (fF.trans (b:=_) gF (hg2.trans gF)))) hl).mono ?_);rintro e3 v3 ⟨rfl,hg3⟩) | (go_at_call 109;(with_reducible refine(zqM (Ty.up _ hx1 (hG.out.trans (fF.trans (b:=_) gF (hg2.trans (fF.trans (b:=_) gF (hg3.trans gF)))))) hl hs a0 a8).mono ?_);rw[aj.out];rintro e4 v4 ⟨rfl,ay⟩));go_roundw;exact⟨j+1,e+1,by go_num,by go_num,by omega,by omega,fE (fF.trans (b:=_) hG.out (fF.trans (b:=_) gF (hg2.trans (fF.trans (b:=_) gF (hg3.trans (fF.trans (b:=_) gF (ay.trans gF))))))),HF⟩;exact gL
     ·have aj:=fE hb
      have HF:Hid (zs xs=U):=fE (vZ (by rw[a2.out,<-hE.out,ae.out,hb];simp));clear hff hkn hb;go_wp2_with(first | (go_at_call 107;(with_reducible refine(za2 (Ty.up _ hx1 (hG.out.trans gF)) hl).mono ?_);rw[HE.out];rintro e2 v2 ⟨rfl,hg2⟩;have w1:=za (hG.out.trans (fF.trans (b:=_) gF hg2)) x1) | (go_at_call 108;(with_reducible refine(zcL (Ty.up _ hx1 (hG.out.trans (fF.trans (b:=_) gF (hg2.trans gF)))) hl).mono ?_);rintro e3 v3 ⟨rfl,hg3⟩) | (go_at_call 109;(with_reducible refine(zqM (Ty.up _ hx1 (hG.out.trans (fF.trans (b:=_) gF (hg2.trans (fF.trans (b:=_) gF (hg3.trans gF)))))) hl hs a0 a8).mono ?_);rw[aj.out];rintro e4 v4 ⟨rfl,ay⟩))
      all_goals exact Ln (v:=X U) (by simp[Ly,results41,go_sem]) rfl ⟨by rw[HF.out],hg1.trans (fF.trans (b:=_) hG.out (fF.trans (b:=_) gF (hg2.trans (fF.trans (b:=_) gF (hg3.trans (fF.trans (b:=_) gF (ay.trans gF)))))))⟩
    ·obtain rfl:j=FL.length:=by omega
     have aY:¬ ((FL.length:Int)<(FL.length:Int)):=by omega
     have ap:Hid (l6 xs FL 0=decide ((n:Int)=(xs.length:Int))):=fE (by rw[<-hE.out,LY];rfl);clear hE hlt;go_wp2_with(fail);have ar:=hG;go_loopw [95,10] (fun z q wr=>∃(i:Nat) (A5:K Mh) (c5:Nat) (S5:Q Nat),z=F I i/\q=J A5 i c5/\i<=xs.length/\Hid (fF v1 wr)/\Hid (Has (zF.sl 3) wr [J A5 i c5] (rh xs i) S5)/\Hid (∀ b∈S5,v1.heap.size<=b)) (fun z _ _=>xs.length-(Ml z).toNat)
     case atStart=>exact⟨0,_,0,[_],rfl,rfl,Lv _,fE (ar.out.trans gF),fE (Has.emp zF (zj (Lp _ _) gF)),fE (fun b hb=>by simp only[Lr] at hb;have:=ar.out.size;omega)⟩
     case round=>
      clear hG ar;obtain⟨i,A5,c5,S5,rfl,rfl,hi,hG,hH,hS⟩:=hrel;have am:Hid (-1<=zx xs i/\zx xs i<=60):=fE (H8 i ai.out);obtain⟨ev,av⟩:∃ ev,zx xs i=ev:=⟨_,rfl⟩
      rw[av] at am;have aw:=am.out;have al:=fE av;have aT:=ai.out;clear av;by_cases hlt:i<xs.length
      ·have aa:(i:Int)<(xs.length:Int):=by omega
       go_wp2_with(first | (go_at_call 110;(with_reducible refine(zhq (Ty.up _ hx1 (hG.out.trans gF)) hl).mono ?_);rw[al.out];rintro e2 v2 ⟨rfl,hg2⟩) | (at_builtin;refine zr (W1:=w) (L:=i+1) rfl (.tmp 98) (.tmp 102) kJ zP (S:=S5) (hH.out.fO (fF.trans (b:=_) gF (hg2.trans gF))) (ec:=[F I ev]) (y:=ev) (B:=0) ⟨rfl,by omega,by omega⟩ rfl rfl rfl (by intro j u hu;simpa[go_sem] using hu) rfl (by omega) (by omega) ?_;intro A8 aR W8 S8 ab aV aW;have aU:fF v1 W8:=ab.fO (hG.out.trans (fF.trans (b:=_) gF (hg2.trans gF))) hS.out;have aQ:=fE (wJ ab (hG.out.trans (fF.trans (b:=_) gF (hg2.trans gF))) hS.out aW)));go_roundw;exact⟨i+1,A8,aR,S8,by go_num,rfl,by omega,fE (fF.trans (b:=_) aU gF),fE (by rw[Ga,al.out];exact aV.fO gF),aQ⟩;exact gL
      ·obtain rfl:i=xs.length:=by omega
       have aa:¬ ((xs.length:Int)<(xs.length:Int)):=by omega
       have aF:=fE hH.out.read;have aI:=hG;clear hlt am al aw;go_wp2_with(fail);go_loopw [107] (fun z wr=>∃(i:Nat),z=F I i/\i<=xs.length/\Hid (fF v1 wr)/\Hid ((zF.sl 3).R wr wr.heap.size [J A5 xs.length c5] (rh xs xs.length))/\Hid (nF (nC xs) (xs.drop i) i=nF (nC xs) xs 0)) (fun z _=>xs.length-(Ml z).toNat)
       case atStart=>exact⟨0,rfl,Lv _,fE (aI.out.trans gF),fE (Ty.up _ aF.out gF),fE rfl⟩
       case round=>
        clear hG aI hH aF hS;obtain⟨i,rfl,hi,hG,hR,hE⟩:=hrel;by_cases hlt:i<xs.length
        ·obtain⟨g2,ac,x,aA,aG,aB,aH,a3,_,a1,x0,x1,x2,x3,b0,b1,h2,h3⟩:=jb hx1 hlt
         injection a3 with a3
         injection a3 with e1 e2
         subst e1 e2;have aa:(i:Int)<(xs.length:Int):=by omega
         have v0:=za hG.out x0;have aO:=za hG.out x1;have b2:=za hG.out x2;have v3:=za hG.out x3;have HX:=fE a1;clear a1 x0 x1 x2 x3;by_cases h4:x.Kind=4
         ·have q4:(x.Kind == 4)=M:=LM.2 h4
          rcases LH ((nC xs).any fun y=>decide (y=(i:Int))) with a5 | a5
          ·have ak:=fE a5
           have HF:Hid (nF (nC xs) (xs.drop (i+1)) (i+1)=nF (nC xs) xs 0):=fE (by rw[<-hE.out,xV HX.out,Lu h4,a5,M4]);clear a5 h4;go_wp2_with(first | (go_at_call 111;(with_reducible refine(Bd (vR xs xs.length).symm (Ty.up _ hR.out gF) (by rw[vR];omega)).mono ?_);rw[CN,ak.out];rintro e2 v2 ⟨rfl,hg2⟩));go_roundw;exact⟨i+1,by go_num,by omega,fE (fF.trans (b:=_) hG.out (fF.trans (b:=_) gF (hg2.trans gF))),fE (Ty.up _ hR.out (fF.trans (b:=_) gF (hg2.trans gF))),HF⟩;exact gL
          ·have ak:=fE a5
           have HF:Hid (zs xs=U):=fE (H3 (by rw[<-hE.out,xV HX.out,Lu h4,a5];rfl));clear a5 h4;go_wp2_with(first | (go_at_call 111;(with_reducible refine(Bd (vR xs xs.length).symm (Ty.up _ hR.out gF) (by rw[vR];omega)).mono ?_);rw[CN,ak.out];rintro e2 v2 ⟨rfl,hg2⟩))
           all_goals exact Ln (v:=X U) (by simp[Ly,results41,go_sem]) rfl ⟨by rw[HF.out],hg1.trans (fF.trans (b:=_) hG.out (fF.trans (b:=_) gF (hg2.trans gF)))⟩
         ·have q4:(x.Kind == 4)=U:=Lk.2 h4
          have HF:Hid (nF (nC xs) (xs.drop (i+1)) (i+1)=nF (nC xs) xs 0):=fE (by rw[<-hE.out,xV HX.out,Lt h4,M4]);clear h4;go_wp2_with(fail);go_roundw;exact⟨i+1,by go_num,by omega,fE (fF.trans (b:=_) hG.out gF),fE (Ty.up _ hR.out gF),HF⟩;exact gL
        ·obtain rfl:i=xs.length:=by omega
         have aa:¬ ((xs.length:Int)<(xs.length:Int)):=by omega
         have HF:Hid (zs xs=decide ((n:Int)=(xs.length:Int))):=fE (IS ai.out (by rw[a2.out];exact ad.out) aC.out HH.out (by rw[a2.out];exact ap.out) (by rw[<-hE.out,LY];rfl));go_wp2_with(fail);exact Ln (v:=X (decide ((n:Int)=(xs.length:Int)))) (by simp[Ly,results41,go_sem,qY]) rfl ⟨by rw[HF.out],hg1.trans (hG.out.trans gF)⟩
end Go.Proofs.YtiihkapmggfjkaaGreat
