/-
  PART.
-/
import Derived.Test.YthgbglbaemelhaaGreatM2LawThreadsApart
set_option linter.unusedVariables false
set_option linter.unusedSimpArgs false
set_option maxRecDepth 100000
set_option maxHeartbeats 8000000
namespace Go.Proofs.YthgbglbaemelhaaGreat
open Value renaming slice->G,int->J,bool->H,string->V
open IntKind renaming i64->Z,wrap->Rg
open Option renaming none->C,some->D
open Obj renaming cells->F
open Bool renaming false->I,true->M
open Go renaming World->U,Calls->RD,Addr->RJ,TypeId->R5,yielded->Th
open World renaming cell?->Rb
open RowKit renaming intOf->RS
open List renaming length_singleton->R4
open Region renaming wanted->RV,ready->Sn,noSelect->TZ,free->Wu
open Tryz
open Go.RowKit
variable {A A0:X RJ}{B a c c0 j n:Nat}{S S1:Q Nat}{code:N}{cs:Q Value}{e:R5}{prev:Q N}{w:U}
def I5 (b:Bool)(w:U)(e:Ending)(w':U):Prop:=∃ A n c,e=.returned (.tuple #[G A n c,H b])/\fu w w'
theorem Xh {g:Prop} (f:g:=by
  go_roundw
  case measure=>exact gM
  case rel=>
   refine⟨a+n,l++[⟨co,ar⟩],A7,c7,S7,by rw[Rh];rfl,Ar,K9,by rw[Rh,R4];omega,by rw[Rh];exact hH7,fun b hb=>?_,HST,fh (hon.fy (hG.out.trans gF) hS)⟩
   rcases hS7 b hb with h | h
   ·exact hS b h
   ·have:=hG.out.size
    simp at h
    omega):g:=f
theorem vK {g:Prop} (f:g:=by
  have HQ:=fh (show kV s 0=M from by rw[<-hd.out];exact E5 (Ru _))
  go_wp2_with(fail)
  go_ret2
  exact⟨_,_,_,by rw[HQ.out];rfl,hG.out⟩):g:=f
theorem zwT (s:N)(w:U)(hs:s.size<=1099511627776):RD prog 144 #[V s] w (I5 (kV s 0) w):=by
 go_enter func144,ntmps144;go_wp2_with(fail);have en:=Re w (F #[] 142);go_loopw [4,5] (fun x y wr=>∃(a:Nat) (l:Q me) (A:X RJ) (c:Nat) (S:Q Nat),x=G A l.length c/\y=J Z a/\a<=s.size/\l.length<=a/\Has (sD.sl 142) wr [G A l.length c] l S/\(∀ b∈S,w.heap.size<=b)/\Hid (kV s a=kV s 0)/\Hid (fu w wr)) (fun _ y _=>s.size-(RS y).toNat)
 case atStart=>exact⟨0,[],_,0,[w.heap.size],rfl,rfl,Rl _,Ru _,Has.Wy sD en,II,fh rfl,fh gG⟩
 case round=>
  clear en;obtain⟨a,l,A,c,S,rfl,rfl,ha,hl,hH,hS,hd,hG⟩:=hrel;by_cases hlt:a<s.size
  ·have a0:fE (a:Int):=⟨K9,K9⟩
   obtain⟨r,hr⟩:∃ r,je s (a:Int)=r:=⟨_,rfl⟩
   have hk:=wv hr;have a1:=AG hr;cases hrk:r.ok with
   | false=>
    have HQ:=fh (show kV s 0=I from by rw[<-hd.out];exact Gn hlt (by rw[hr];exact hrk));have hz:=E8 hr hrk;subst hz;have HR:=fh hr;clear hr hrk hk;go_wp2_with(go_at_call 130;(with_reducible refine(zgo s (a:Int) _ hs a0).mono ?_);rw[HR.out];rintro e w4 ⟨rfl,a3,d4,rfl⟩);go_ret2;exact⟨_,_,_,by rw[HQ.out];rfl,hG.out.trans gF⟩
   | true=>
    obtain⟨k0,k1,k2,k3,k4,k5⟩:=hk hrk;obtain⟨co,ar,n,a4⟩:=r;simp only at hrk k0 k1 k2 k3 k4 k5 a1;subst hrk;have HST:=fh (show kV s (a+n)=kV s 0 from by rw[<-hd.out,Co hlt (by rw[hr]),hr]);have HR:=fh hr;clear hr hk;have a2:sD.R w 0 [J Z co,J Z ar] ⟨co,ar⟩:=IY (x:=⟨co,ar⟩) ⟨by simp only;omega,by simp only;omega⟩ ⟨by simp only;omega,by simp only;omega⟩
    go_wp2_with(first
     | (go_at_call 130;(with_reducible refine(zgo s (a:Int) _ hs a0).mono ?_);rw[HR.out];rintro e w4 ⟨rfl,a3,d4,rfl⟩)
     | (refine zD (L:=l.length+1) (y:=(⟨co,ar⟩:me)) rfl (.tmp 23) (.tmp 25) Jt I1 (S:=S) (hH.fy gF) (ec:=[J Z co,J Z ar]) (W1:=w) (B:=0) a2 rfl rfl rfl (by intro j u hu;simpa[go_sem] using hu) rfl K9 K9 ?_;intro A7 c7 W7 S7 hon hH7 hS7))
    exact Xh
  ·obtain rfl:a=s.size:=K9
   exact vK
theorem zwU (s:N)(w:U)(hs:s.size<=1099511627776):RD prog 134 #[V s] w (I5 (kV s 0) w):=by
 go_enter func134,ntmps134;go_wp2_with(fail);have en:=Re w (F #[] 142);go_loopw [4,5] (fun x y wr=>∃(a:Nat) (l:Q me) (A:X RJ) (c:Nat) (S:Q Nat),x=G A l.length c/\y=J Z a/\a<=s.size/\l.length<=a/\Has (sD.sl 142) wr [G A l.length c] l S/\(∀ b∈S,w.heap.size<=b)/\Hid (kV s a=kV s 0)/\Hid (fu w wr)) (fun _ y _=>s.size-(RS y).toNat)
 case atStart=>exact⟨0,[],_,0,[w.heap.size],rfl,rfl,Rl _,Ru _,Has.Wy sD en,II,fh rfl,fh gG⟩
 case round=>
  clear en;obtain⟨a,l,A,c,S,rfl,rfl,ha,hl,hH,hS,hd,hG⟩:=hrel;by_cases hlt:a<s.size
  ·have a0:fE (a:Int):=⟨K9,K9⟩
   obtain⟨r,hr⟩:∃ r,je s (a:Int)=r:=⟨_,rfl⟩
   have hk:=wv hr;have a1:=AG hr;cases hrk:r.ok with
   | false=>
    have HQ:=fh (show kV s 0=I from by rw[<-hd.out];exact Gn hlt (by rw[hr];exact hrk));have hz:=E8 hr hrk;subst hz;have HR:=fh hr;clear hr hrk hk;go_wp2_with(go_at_call 135;(with_reducible refine(zh4 s (a:Int) _ hs a0).mono ?_);rw[HR.out];rintro e w4 ⟨rfl,a3,d4,rfl⟩);go_ret2;exact⟨_,_,_,by rw[HQ.out];rfl,hG.out.trans gF⟩
   | true=>
    obtain⟨k0,k1,k2,k3,k4,k5⟩:=hk hrk;obtain⟨co,ar,n,a4⟩:=r;simp only at hrk k0 k1 k2 k3 k4 k5 a1;subst hrk;have HST:=fh (show kV s (a+n)=kV s 0 from by rw[<-hd.out,Co hlt (by rw[hr]),hr]);have HR:=fh hr;clear hr hk;have a2:sD.R w 0 [J Z co,J Z ar] ⟨co,ar⟩:=IY (x:=⟨co,ar⟩) ⟨by simp only;omega,by simp only;omega⟩ ⟨by simp only;omega,by simp only;omega⟩
    go_wp2_with(first
     | (go_at_call 135;(with_reducible refine(zh4 s (a:Int) _ hs a0).mono ?_);rw[HR.out];rintro e w4 ⟨rfl,a3,d4,rfl⟩)
     | (refine zD (L:=l.length+1) (y:=(⟨co,ar⟩:me)) rfl (.tmp 24) (.tmp 26) Jt I1 (S:=S) (hH.fy gF) (ec:=[J Z co,J Z ar]) (W1:=w) (B:=0) a2 rfl rfl rfl (by intro j u hu;simpa[go_sem] using hu) rfl K9 K9 ?_;intro A7 c7 W7 S7 hon hH7 hS7))
    exact Xh
  ·obtain rfl:a=s.size:=K9
   exact vK
structure fC where
 pu:N
 kw:Int
 gH:Int
 deriving DecidableEq
def jm:Ty fC:=(iI.prod (zr.prod zr)).via fun x=>(x.pu,x.kw,x.gH)
theorem Nn {x:fC} (h:jm.R w B cs x):cs = [V x.pu,J Z x.kw,J Z x.gH]/\x.pu.size<=9223372036854775807/\fE x.kw/\fE x.gH:=by
 obtain⟨_,_,rfl,⟨rfl,a2⟩,⟨_,_,rfl,⟨rfl,a0,a1⟩,⟨rfl,a3,a4⟩⟩⟩:=h;exact⟨rfl,a2,⟨a0,a1⟩,⟨a3,a4⟩⟩
theorem Fw {x:fC} (h0:x.pu.size<=9223372036854775807)(h1:fE x.kw)(h2:fE x.gH):jm.R w B [V x.pu,J Z x.kw,J Z x.gH] x:=by
 exact⟨[V x.pu],[J Z x.kw,J Z x.gH],rfl,⟨rfl,h0⟩,⟨[J Z x.kw],[J Z x.gH],rfl,⟨rfl,h1.1,h1.2⟩,⟨rfl,h2.1,h2.2⟩⟩⟩
theorem Nm {x:fC} (h:jm.O w cs x S):cs = [V x.pu,J Z x.kw,J Z x.gH]/\S = []/\x.pu.size<=9223372036854775807/\fE x.kw/\fE x.gH:=by
 obtain⟨_,_,_,_,rfl,rfl,⟨rfl,a2,rfl⟩,⟨_,_,_,_,rfl,rfl,⟨rfl,a0,a1,rfl⟩,⟨rfl,a3,a4,rfl⟩⟩⟩:=h;exact⟨rfl,rfl,a2,⟨a0,a1⟩,⟨a3,a4⟩⟩
theorem Mk {x:fC} (h0:x.pu.size<=9223372036854775807)(h1:fE x.kw)(h2:fE x.gH):jm.O w [V x.pu,J Z x.kw,J Z x.gH] x ([]):=by
 exact⟨[V x.pu],[J Z x.kw,J Z x.gH],[],([]++[]),rfl,rfl,⟨rfl,h0,rfl⟩,⟨[J Z x.kw],[J Z x.gH],[],[],rfl,rfl,⟨rfl,h1.1,h1.2,rfl⟩,⟨rfl,h2.1,h2.2,rfl⟩⟩⟩
structure gv where
 Code:N
 fm:Q fC
 deriving DecidableEq
def iG:Ty gv:=(iI.prod (jm.sl 137)).via fun x=>(x.Code,x.fm)
theorem OZ {x:gv} (h:iG.R w B cs x):∃ A0 c0,cs = [V x.Code,G A0 x.fm.length c0]/\x.Code.size<=9223372036854775807/\(jm.sl 137).R w B [G A0 x.fm.length c0] x.fm:=by
 obtain⟨_,_,rfl,⟨rfl,a1⟩,a0⟩:=h;obtain⟨A0,c0,rfl,_⟩:=id a0;exact⟨A0,c0,rfl,a1,a0⟩
structure gk where
 fo:Q gv
 ft:Q Int
 ii:Q Int
 deriving DecidableEq
def kY:Ty gk:=((iG.sl 103).prod ((zr.sl 3).prod (zr.sl 3))).via fun x=>(x.fo,x.ft,x.ii)
theorem Hy {x:gk} (h:kY.R w B cs x):∃ A0 c0 A1 c1 A2 c2,cs = [G A0 x.fo.length c0,G A1 x.ft.length c1,G A2 x.ii.length c2]/\(iG.sl 103).R w B [G A0 x.fo.length c0] x.fo/\(zr.sl 3).R w B [G A1 x.ft.length c1] x.ft/\(zr.sl 3).R w B [G A2 x.ii.length c2] x.ii:=by
 obtain⟨_,_,rfl,a1,⟨_,_,rfl,a2,a0⟩⟩:=h;obtain⟨A0,c0,rfl,_⟩:=id a1;obtain⟨A1,c1,rfl,_⟩:=id a2;obtain⟨A2,c2,rfl,_⟩:=id a0;exact⟨A0,c0,A1,c1,A2,c2,rfl,a1,a2,a0⟩
theorem uP {g:Prop} (f:g:=by
  have h:kY.O w [G A0 x.fo.length c0,G A1 x.ft.length c1,G A2 x.ii.length c2] x (S0++(S1++S2)):=⟨[G A0 x.fo.length c0],[G A1 x.ft.length c1,G A2 x.ii.length c2],S0,(S1++S2),rfl,rfl,h0,⟨[G A1 x.ft.length c1],[G A2 x.ii.length c2],S1,S2,rfl,rfl,h1,h2⟩⟩
  simpa using h):g:=f
theorem MC {x:gk} (A0:X RJ)(c0:Nat)(S0:Q Nat)(A1:X RJ)(c1:Nat)(S1:Q Nat)(A2:X RJ)(c2:Nat)(S2:Q Nat)(h0:(iG.sl 103).O w [G A0 x.fo.length c0] x.fo S0)(h1:(zr.sl 3).O w [G A1 x.ft.length c1] x.ft S1)(h2:(zr.sl 3).O w [G A2 x.ii.length c2] x.ii S2):kY.O w [G A0 x.fo.length c0,G A1 x.ft.length c1,G A2 x.ii.length c2] x (S0++S1++S2):=by
 exact uP
structure fv where
 Pc:Int
 Sp:Int
 Fp:Int
 pm:Q Int
 If:Q Int
 rc:Int
 Value:Int
 deriving DecidableEq
def zG:Ty fv:=(zr.prod (zr.prod (zr.prod ((zr.sl 3).prod ((zr.sl 3).prod (zr.prod zr)))))).via fun x=>(x.Pc,x.Sp,x.Fp,x.pm,x.If,x.rc,x.Value)
theorem CI {x:fv} (h:zG.R w B cs x):∃ A0 c0 A1 c1,cs = [J Z x.Pc,J Z x.Sp,J Z x.Fp,G A0 x.pm.length c0,G A1 x.If.length c1,J Z x.rc,J Z x.Value]/\fE x.Pc/\fE x.Sp/\fE x.Fp/\(zr.sl 3).R w B [G A0 x.pm.length c0] x.pm/\(zr.sl 3).R w B [G A1 x.If.length c1] x.If/\fE x.rc/\fE x.Value:=by
 obtain⟨_,_,rfl,⟨rfl,a7,aa⟩,⟨_,_,rfl,⟨rfl,a8,ab⟩,⟨_,_,rfl,⟨rfl,a6,a9⟩,⟨_,_,rfl,a0,⟨_,_,rfl,a5,⟨_,_,rfl,⟨rfl,a1,a3⟩,⟨rfl,a2,a4⟩⟩⟩⟩⟩⟩⟩:=h;obtain⟨A0,c0,rfl,_⟩:=id a0;obtain⟨A1,c1,rfl,_⟩:=id a5;exact⟨A0,c0,A1,c1,rfl,⟨a7,aa⟩,⟨a8,ab⟩,⟨a6,a9⟩,a0,a5,⟨a1,a3⟩,⟨a2,a4⟩⟩
theorem yp {x:fv} (h:zG.O w cs x S):∃ A0 c0 S0 A1 c1 S1,cs = [J Z x.Pc,J Z x.Sp,J Z x.Fp,G A0 x.pm.length c0,G A1 x.If.length c1,J Z x.rc,J Z x.Value]/\S=S0++S1/\fE x.Pc/\fE x.Sp/\fE x.Fp/\(zr.sl 3).O w [G A0 x.pm.length c0] x.pm S0/\(zr.sl 3).O w [G A1 x.If.length c1] x.If S1/\fE x.rc/\fE x.Value:=by
 obtain⟨_,_,_,_,rfl,rfl,⟨rfl,a7,aa,rfl⟩,⟨_,_,_,_,rfl,rfl,⟨rfl,a8,ab,rfl⟩,⟨_,_,_,_,rfl,rfl,⟨rfl,a6,a9,rfl⟩,⟨_,_,_,_,rfl,rfl,a0,⟨_,_,_,_,rfl,rfl,a5,⟨_,_,_,_,rfl,rfl,⟨rfl,a1,a3,rfl⟩,⟨rfl,a2,a4,rfl⟩⟩⟩⟩⟩⟩⟩:=h;obtain⟨A0,c0,_,_,rfl,_⟩:=id a0;obtain⟨A1,c1,_,_,rfl,_⟩:=id a5;exact⟨A0,c0,_,A1,c1,_,rfl,II,⟨a7,aa⟩,⟨a8,ab⟩,⟨a6,a9⟩,a0,a5,⟨a1,a3⟩,⟨a2,a4⟩⟩
structure fO where
 fk:gk
 fq:Q fv
 fR:Int
 EQ:Int
 ws:Int
 deriving DecidableEq
def nC:Ty fO:=(kY.prod ((zG.sl 41).prod (zr.prod (zr.prod zr)))).via fun x=>(x.fk,x.fq,x.fR,x.EQ,x.ws)
theorem MB {x:fO} (h:nC.R w B cs x):∃ A0 c0 A1 c1 A2 c2 A3 c3,cs = [G A0 x.fk.fo.length c0,G A1 x.fk.ft.length c1,G A2 x.fk.ii.length c2,G A3 x.fq.length c3,J Z x.fR,J Z x.EQ,J Z x.ws]/\(iG.sl 103).R w B [G A0 x.fk.fo.length c0] x.fk.fo/\(zr.sl 3).R w B [G A1 x.fk.ft.length c1] x.fk.ft/\(zr.sl 3).R w B [G A2 x.fk.ii.length c2] x.fk.ii/\(zG.sl 41).R w B [G A3 x.fq.length c3] x.fq/\fE x.fR/\fE x.EQ/\fE x.ws:=by
 obtain⟨_,_,rfl,⟨_,_,rfl,a1,⟨_,_,rfl,a2,a0⟩⟩,⟨_,_,rfl,a3,⟨_,_,rfl,⟨rfl,a7,a9⟩,⟨_,_,rfl,⟨rfl,a6,a8⟩,⟨rfl,a4,a5⟩⟩⟩⟩⟩:=h;obtain⟨A0,c0,rfl,_⟩:=id a1;obtain⟨A1,c1,rfl,_⟩:=id a2;obtain⟨A2,c2,rfl,_⟩:=id a0;obtain⟨A3,c3,rfl,_⟩:=id a3;exact⟨A0,c0,A1,c1,A2,c2,A3,c3,rfl,a1,a2,a0,a3,⟨a7,a9⟩,⟨a6,a8⟩,⟨a4,a5⟩⟩
theorem MA {x:fO} (h:nC.O w cs x S):∃ A0 c0 S0 A1 c1 S1 A2 c2 S2 A3 c3 S3,cs = [G A0 x.fk.fo.length c0,G A1 x.fk.ft.length c1,G A2 x.fk.ii.length c2,G A3 x.fq.length c3,J Z x.fR,J Z x.EQ,J Z x.ws]/\S=S0++S1++S2++S3/\(iG.sl 103).O w [G A0 x.fk.fo.length c0] x.fk.fo S0/\(zr.sl 3).O w [G A1 x.fk.ft.length c1] x.fk.ft S1/\(zr.sl 3).O w [G A2 x.fk.ii.length c2] x.fk.ii S2/\(zG.sl 41).O w [G A3 x.fq.length c3] x.fq S3/\fE x.fR/\fE x.EQ/\fE x.ws:=by
 obtain⟨_,_,_,_,rfl,rfl,⟨_,_,_,_,rfl,rfl,a1,⟨_,_,_,_,rfl,rfl,a2,a0⟩⟩,⟨_,_,_,_,rfl,rfl,a3,⟨_,_,_,_,rfl,rfl,⟨rfl,a7,a9,rfl⟩,⟨_,_,_,_,rfl,rfl,⟨rfl,a6,a8,rfl⟩,⟨rfl,a4,a5,rfl⟩⟩⟩⟩⟩:=h;obtain⟨A0,c0,_,_,rfl,_⟩:=id a1;obtain⟨A1,c1,_,_,rfl,_⟩:=id a2;obtain⟨A2,c2,_,_,rfl,_⟩:=id a0;obtain⟨A3,c3,_,_,rfl,_⟩:=id a3;exact⟨A0,c0,_,A1,c1,_,A2,c2,_,A3,c3,_,rfl,II,a1,a2,a0,a3,⟨a7,a9⟩,⟨a6,a8⟩,⟨a4,a5⟩⟩
def jr (code:N):Q fC->Q N->Nat->Bool
 | [],_,a=>decide (a=code.size)
 | x::r,prev,a=>decide (x.kw=(a:Int)) && decide (1<=x.gH) && decide (x.gH<=(code.size:Int)-a) && kZ x.pu && !prev.any (fun y=>decide (y=x.pu)) && kV (code.extract a (a+x.gH.toNat)) 0 && jr code r (prev++[x.pu]) (a+x.gH.toNat)
def jw (i:gv):Bool:=decide (i.Code.size<=1000000) && jr i.Code i.fm [] 0
def qt (x:fC)(off:Int):Bool:=fP x.kw 0 1000000 && fP x.gH 0 1000000 && decide (x.kw<=off) && decide (off<x.kw+x.gH)
def mR:Q fC->Int->Nat->Int
 | [],_,_=>-1
 | x::r,off,k=>if qt x off=M then (k:Int) else mR r off (k+1)
theorem NV {x:fC} {r:Q fC} (h:jr code (x::r) prev a=M) :
  x.kw=(a:Int)/\1<=x.gH/\x.gH<=(code.size:Int)-a/\jr code r (prev++[x.pu]) (a+x.gH.toNat)=M:=by
 simp only[jr,Rq,RC] at h;exact⟨h.1.1.1.1.1.1,h.1.1.1.1.1.2,h.1.1.1.1.2,h.2⟩
theorem AR (hc:code.size<=1000000):∀(l:Q fC)(prev:Q N)(a k0:Nat),jr code l prev a=M->∀ x∈l,(∃ k y,mR l x.kw k0=((k0+k:Nat):Int)/\l[k]?=D y/\y.kw=x.kw)/\(a:Int)<=x.kw/\x.kw+1<=code.size:=by
 intro l;induction l with
 | nil=>intro prev a k0 _ x hx;cases hx
 | cons y r ih=>
  intro prev a k0 h x hx;obtain⟨h1,h2,h3,h4⟩:=NV h;rcases RO.1 hx with rfl | hx
  ·refine⟨⟨0,x,?_,rfl,rfl⟩,by omega,by omega⟩
   have:qt x x.kw=M:=by
    unfold qt;rw[oz (by omega) (by omega),oz (by omega) (by omega)];simp;omega
   simp[mR,this]
  ·obtain⟨⟨k,z,e1,e2,e3⟩,e4,e5⟩:=ih _ _ (k0+1) h4 x hx
   refine⟨⟨k+1,z,?_,e2,e3⟩,by omega,e5⟩
   have:qt y x.kw=I:=by
    unfold qt;simp;omega
   simp only[mR,this];rw[Ro (by simp),e1];congr 1;omega
theorem FF:∀(l:Q fC)(off:Int)(k0:Nat),mR l off k0 = -1∨∃ k x,mR l off k0=((k0+k:Nat):Int)/\l[k]?=D x/\x∈l:=by
 intro l;induction l with
 | nil=>intro off k0;exact .inl rfl
 | cons x r ih=>
  intro off k0;simp only[mR];split
  ·exact .inr ⟨0,x,II,rfl,II⟩
  ·rcases ih off (k0+1) with h | ⟨k,y,h1,h2,h3⟩
   ·exact .inl h
   ·exact .inr ⟨k+1,y,by rw[h1];congr 1;omega,h2,by simp[h3]⟩
def jF:Q gv->Q Int->Int->Nat->Int × Int
 | i::is,b::bs,a,k=>if b<=a/\a<b+i.Code.size then ((k:Int),a-b) else jF is bs a (k+1)
 | _,_,_,_=>(-1,-1)
def loc (s:gk)(a:Int):Int × Int:=jF s.fo s.ft a 0
def kI (s:gk)(e:Int):Bool:=(s.fo.zip s.ft).any fun p=>p.1.fm.any fun x=>decide (p.2+x.kw=e)
def qz (s:gk)(e:Int):Bool:=
 match s.fo[(loc s e).1.toNat]? with
 | none=>I
 | some i=>decide (0<=(loc s e).1) && (match i.fm[(mR i.fm (loc s e).2 0).toNat]? with
  | none=>I
  | some x=>decide (0<=mR i.fm (loc s e).2 0) && decide (x.kw=(loc s e).2))
def Bl (s:gk):Bool:=
 match s.fo,s.ft with
 | [i,j],[a,b]=>decide (0<i.Code.size) && decide (0<j.Code.size) && decide (a<b+j.Code.size) && decide (b<a+i.Code.size)
 | _,_=>M
def zZ (s:gk):Bool:=
 decide (s.fo.length=2) && decide (s.ft.length=2) && fP s.ii.length 1 6 && s.fo.all jw && s.ft.all (fun b=>fP b 1 1000000) && !Bl s && s.ii.all (kI s)
theorem Qu {i j:gv} {a b:Int} {es:Q Int} (hi:jw i=M)(hj:jw j=M)(ha:1<=a)(hb:1<=b)(ho:¬ (0<i.Code.size/\0<j.Code.size/\a<b+j.Code.size/\b<a+i.Code.size))(e:Int) :
  qz ⟨[i,j],[a,b],es⟩ e=kI ⟨[i,j],[a,b],es⟩ e:=by
 simp only[jw,Rq,RC] at hi hj;obtain⟨ci,fi⟩:=hi;obtain⟨cj,fj⟩:=hj
 have a0:qz ⟨[i,j],[a,b],es⟩ e=M↔kI ⟨[i,j],[a,b],es⟩ e=M:=by
  simp only[kI,List.zip_cons_cons,List.zip_nil_right,List.any_cons,List.any_nil,Bool.or_false,UQ,Ts,RC];constructor
  ·intro h
   have hl:(loc ⟨[i,j],[a,b],es⟩ e=(0,e-a))∨(loc ⟨[i,j],[a,b],es⟩ e=(1,e-b))∨loc ⟨[i,j],[a,b],es⟩ e=(-1,-1):=by
    simp only[loc,jF];split
    ·simp
    ·split
     ·simp
     ·simp
   have hz:∀(l:Q fC) (o:Int),(match l[(mR l o 0).toNat]? with
     | none=>I
     | some x=>decide (0<=mR l o 0) && decide (x.kw=o))=M->∃ x∈l,x.kw=o:=by
    intro l o h;split at h
    ·cases h
    ·rename_i x hx
     simp only[Rq,RC] at h;exact⟨x,Rt hx,h.2⟩
   unfold qz at h;rcases hl with hl | hl | hl
   ·rw[hl] at h
    simp at h;obtain⟨x,hx,hs⟩:=hz i.fm (e-a) (by simpa using h);exact .inl ⟨x,hx,K9⟩
   ·rw[hl] at h
    simp at h;obtain⟨x,hx,hs⟩:=hz j.fm (e-b) (by simpa using h);exact .inr ⟨x,hx,K9⟩
   ·rw[hl] at h
    simp at h
  ·intro h
   rcases h with⟨x,hx,he⟩ | ⟨x,hx,he⟩
   ·obtain⟨⟨k,y,e1,e2,e3⟩,e4,e5⟩:=AR ci i.fm [] 0 0 fi x hx
    have hl:loc ⟨[i,j],[a,b],es⟩ e=(0,x.kw):=by
     simp only[loc,jF];rw[Rs K9];simp;omega
    unfold qz;rw[hl];simp[e1,e2,e3]
   ·obtain⟨⟨k,y,e1,e2,e3⟩,e4,e5⟩:=AR cj j.fm [] 0 0 fj x hx
    have hl:loc ⟨[i,j],[a,b],es⟩ e=(1,x.kw):=by
     simp only[loc,jF];rw[Ro K9,Rs K9];simp;omega
    unfold qz;rw[hl];simp[e1,e2,e3]
 cases h1:qz ⟨[i,j],[a,b],es⟩ e <;> cases h2:kI ⟨[i,j],[a,b],es⟩ e <;> simp_all
def s9 (x:fC):Nat:=x.pu.size
theorem qD {xs:Q fC} (h:(jm.sl e).R w B [G A n c] xs){k:Nat}(hk:k<xs.length) :
  ∃ g off x ,A=D ⟨g,off,C⟩/\g<B/\xs[k]?=D x/\Rb w ⟨g,off+k*3,C⟩=D (V x.pu)/\Rb w ⟨g,off+k*3+1,C⟩=D (J Z x.kw)/\Rb w ⟨g,off+k*3+2,C⟩=D (J Z x.gH)/\x.pu.size<=9223372036854775807/\fE x.kw/\fE x.gH:=by
 obtain⟨g,off,x,ec,h1,hB,h2,h3,h4⟩:=nU h hk;obtain⟨rfl,hf⟩:=Nn h3;exact⟨g,off,x,h1,hB,h2,h4 0 _ rfl,h4 1 _ rfl,h4 2 _ rfl,hf⟩
theorem JZ:(prog.info? 137).map (fun i=>(i.zero,i.size,i.bytes))=D (D (.agg #[V ⟨#[]⟩,J Z 0,J Z 0]),3,32):=Fs
theorem Au:kB jm:=xt _ (oS lA (oS zE zE))
theorem AS:hU prog 101 137 jm 32:=by
 obtain⟨i0,hi,a0,a1,a2⟩:=Tn JZ;exact⟨underlying101,⟨i0,_,hi,a0,a1,a2,rfl⟩,qo⟩
def OH (x:gv)(w:U)(r:Ending)(w':U):Prop:=∃ A0 c0,r=.returned (.agg #[V x.Code,G A0 x.fm.length c0])/\fU iG w w' [V x.Code,G A0 x.fm.length c0] x/\fu w w'
theorem zt {x:gv} (h0:x.Code.size<=9223372036854775807)(h1:(jm.sl 137).O w [G A0 x.fm.length c0] x.fm S1):iG.O w [V x.Code,G A0 x.fm.length c0] x (S1):=by
 have h:iG.O w [V x.Code,G A0 x.fm.length c0] x ([]++S1):=⟨[V x.Code],[G A0 x.fm.length c0],[],S1,rfl,rfl,⟨rfl,h0,rfl⟩,h1⟩
 simpa using h
theorem K8 {W:U} {x:gv} {u1:U} {m1:Nat} (h0:x.Code.size<=9223372036854775807)(h1:kC (jm.sl 137) u1 m1 W [G A0 x.fm.length c0] x.fm)(hw1:w.heap.size<=u1.heap.size):fU iG w W [V x.Code,G A0 x.fm.length c0] x:=by
 obtain⟨S1,a2,a1,a0⟩:=h1;exact⟨_,zt h0 a2,a1,fun b hb=>(by have:=a0 b hb;omega)⟩
def mb (x:gv):Nat:=x.Code.size+lI s9 x.fm
theorem qI {xs:Q gv} (h:(iG.sl e).R w B [G A n c] xs){k:Nat}(hk:k<xs.length) :
  ∃ g off x A0 c0,A=D ⟨g,off,C⟩/\g<B/\xs[k]?=D x/\Rb w ⟨g,off+k*2,C⟩=D (V x.Code)/\Rb w ⟨g,off+k*2+1,C⟩=D (G A0 x.fm.length c0)/\x.Code.size<=9223372036854775807/\(jm.sl 137).R w B [G A0 x.fm.length c0] x.fm:=by
 obtain⟨g,off,x,ec,h1,hB,h2,h3,h4⟩:=nU h hk;obtain⟨A0,c0,rfl,hf⟩:=OZ h3;exact⟨g,off,x,A0,c0,h1,hB,h2,h4 0 _ rfl,h4 1 _ rfl,hf⟩
theorem JX:(prog.info? 103).map (fun i=>(i.zero,i.size,i.bytes))=D (D (.agg #[V ⟨#[]⟩,G C 0 0]),2,40):=Fs
theorem Ik:hU prog 25 103 iG 40:=by
 obtain⟨i0,hi,a0,a1,a2⟩:=Tn JX;exact⟨underlying25,⟨i0,_,hi,a0,a1,a2,rfl⟩,qo⟩
def Hb (x:gk)(w:U)(r:Ending)(w':U):Prop:=∃ A0 c0 A1 c1 A2 c2,r=.returned (.agg #[G A0 x.fo.length c0,G A1 x.ft.length c1,G A2 x.ii.length c2])/\fU kY w w' [G A0 x.fo.length c0,G A1 x.ft.length c1,G A2 x.ii.length c2] x/\fu w w'
theorem xY {x:gk} {A1:X RJ} {c1:Nat} {A2:X RJ} {c2:Nat} {S0:Q Nat} {S2:Q Nat} (h0:(iG.sl 103).O w [G A0 x.fo.length c0] x.fo S0)(h1:(zr.sl 3).O w [G A1 x.ft.length c1] x.ft S1)(h2:(zr.sl 3).O w [G A2 x.ii.length c2] x.ii S2):kY.O w [G A0 x.fo.length c0,G A1 x.ft.length c1,G A2 x.ii.length c2] x (S0++S1++S2):=by
 exact uP
def jE (x:gk):Nat:=lI mb x.fo+x.ft.length+x.ii.length
theorem Ip {l:Q fC} {x:fC} (h:l[j]?=D x):jr code (l.drop j) prev a=(decide (x.kw=(a:Int)) && decide (1<=x.gH) && decide (x.gH<=(code.size:Int)-a) && kZ x.pu && !prev.any (fun y=>decide (y=x.pu)) && kV (code.extract a (a+x.gH.toNat)) 0 && jr code (l.drop (j+1)) (prev++[x.pu]) (a+x.gH.toNat)):=by
 have hl:=(Rd.1 h)
 obtain⟨hl,rfl⟩:=hl;rw[Rw hl];rfl
theorem F5 {l:Q fC} {x:fC} (h:l[j]?=D x):(l.take (j+1)).map fC.pu=(l.take j).map fC.pu++[x.pu]:=by
 rw[wD h,Un];rfl
theorem uT {g:Prop} (f:g:=by
  obtain⟨y,hy,hye⟩:=Ul.1 hyn
  have hye:y.pu=nm:=hye.trans (by simpa using hye2)
  obtain⟨i,hi⟩:=List.mem_iff_getElem?.1 hy
  have him:i<m:=by
   have:=(Rd.1 hi).1
   rw[SX] at this
   omega
  rw[Tc,Rs him] at hi
  exact absurd hye (hne.out i y him hi)):g:=f
theorem Xl {g:Prop} (f:g:=by
  go_wp2_with(fail)
  go_roundw
  case measure=>exact gM
  case rel=>exact⟨m+1,Ar,K9,fh (fun i y hi hy=>by
   by_cases him:i=m
   ·subst him
    rw[HYK.out] at hy
    cases hy
    exact HE.out
   ·exact hne.out i y K9 hy),fh gG⟩):g:=f
theorem zeZ {i:gv} (h1:(jm.sl 137).R w w.heap.size [G A i.fm.length c] i.fm)(hs:i.Code.size<=1099511627776)(hn:i.fm.length<=1099511627776) :
  RD prog 87 #[.agg #[V i.Code,G A i.fm.length c]] w fun e w'=>e=.returned (H (jw i))/\fu w w':=by
 obtain⟨_,_,au,av,ao⟩:=kJ h1;injection au with e1 e2 e3
 subst e1 e3;clear e2;obtain⟨code,a0⟩:=i;simp only at h1 hs hn av ao |-;by_cases hbig:code.size<=1000000
 case neg=>
  have HQ:=fh (show jw ⟨code,a0⟩=I from by simp[jw,hbig]);have hg:decide ((1000000:Int)<(code.size:Int))=M:=Rp K9;go_enter func87,ntmps87;go_wp2_with(fail);go_ret;exact⟨zp HQ.out.symm,gG⟩
 have HQ:=fh (show jw ⟨code,a0⟩=jr code a0 [] 0 from by simp[jw,hbig]);have hg:decide ((1000000:Int)<(code.size:Int))=I:=Rk K9;go_enter func87,ntmps87;go_wp2_with(fail);have a1:fu w (w.alloc (F #[V code,G A a0.length c] 103)):=gG;have eb:=Re w (F #[V code,G A a0.length c] 103);have h2:=Ty.up _ h1 a1;obtain⟨g0,ak⟩:∃ g0,w.heap.size=g0:=⟨_,rfl⟩
 rw[ak] at eb |-;generalize w.alloc _=Y at a1 eb h2 |-;clear h1 ak;obtain⟨y0,y1,_,_,yl⟩:=jT eb;go_loopw [3,17] (fun x y wr=>∃(j a:Nat),x=J Z a/\y=J Z j/\j<=a0.length/\a<=code.size/\Hid (jr code (a0.drop j) ((a0.take j).map fC.pu) a=jr code a0 [] 0)/\Hid (fu Y wr)) (fun _ y _=>a0.length-(RS y).toNat)
 case atStart=>exact⟨0,0,rfl,rfl,Rl _,Rl _,fh rfl,fh (fu.refl _)⟩
 case round=>
  obtain⟨j,a,rfl,rfl,hj,ha,hE,hG⟩:=hrel;obtain⟨os,d,rfl⟩:=hG.out;clear hG;by_cases hlt:j<a0.length
  ·obtain⟨g,aK,x,rfl,aE,al,ad,ae,af,aa,am,an⟩:=qD h2 hlt
   have hF:=Ip (code:=code) (a:=a) (prev:=(a0.take j).map fC.pu) al;rw[hE.out] at hF;have a9:=fh (F5 al);have ah:=zd ad os d;have ai:=zd ae os d;have aj:=zd af os d;have z0:=zd y0 os d;have z1:=zd y1 os d;have aG:(j:Int)<(a0.length:Int):=K9;clear hE;obtain⟨nm,st,sz⟩:=x;simp only at hF ad ae af aa am an ah ai aj a9;by_cases q1:st=(a:Int)
   case neg=>
    have HF:=fh (show jr code a0 [] 0=I from by rw[hF];simp[q1]);have p1:(st != (a:Int))=M:=by simp[q1]
    clear hF;go_wp2_with(fail);go_ret;exact⟨zp (by rw[HQ.out,HF.out]),a1.trans gF⟩
   subst q1;have p1:(((a:Nat):Int) != (a:Int))=I:=II;by_cases q2:1<=sz
   case neg=>
    have HF:=fh (show jr code a0 [] 0=I from by rw[hF];simp[q2]);have p2:decide (sz<1)=M:=Rp K9;clear hF;go_wp2_with(fail);go_ret;exact⟨zp (by rw[HQ.out,HF.out]),a1.trans gF⟩
   have p2:decide (sz<1)=I:=Rk K9;by_cases q3:sz<=(code.size:Int)-a
   case neg=>
    have HF:=fh (show jr code a0 [] 0=I from by rw[hF];simp[q3]);have p3:decide ((code.size:Int)-a<sz)=M:=Rp K9;clear hF;go_wp2_with(fail);go_ret;exact⟨zp (by rw[HQ.out,HF.out]),a1.trans gF⟩
   have p3:decide ((code.size:Int)-a<sz)=I:=Rk K9;obtain⟨z,rfl⟩:=RE (show 0<=sz from K9);cases q4:kZ nm
   case false=>
    have HF:=fh (show jr code a0 [] 0=I from by rw[hF];simp[q4]);have HN:=fh q4;clear hF q4;go_wp2_with(go_at_call 143;(with_reducible refine(Hr nm _ aa).mono ?_);rw[HN.out];rintro e w1 ⟨rfl,rfl⟩);go_ret;exact⟨zp (by rw[HQ.out,HF.out]),a1.trans gF⟩
   have HN:=fh q4
   have ag:jr code a0 [] 0=(!((a0.take j).map fC.pu).any (fun y=>decide (y=nm)) && kV (code.extract a (a+z)) 0 && jr code (a0.drop (j+1)) ((a0.take (j+1)).map fC.pu) (a+z)):=by
    rw[hF,a9.out,q4];simp[q2,q3]
   have a8:=fh ag;clear hF ag q4 a9;go_wp2_with(go_at_call 143;(with_reducible refine(Hr nm _ aa).mono ?_);rw[HN.out];rintro e w1 ⟨rfl,rfl⟩);have a2:fu Y ((fy Y os d).alloc (F #[V nm,J Z (a:Int),J Z (z:Int)] 137)):=gG;have es:=Re (fy Y os d) (F #[V nm,J Z (a:Int),J Z (z:Int)] 137);obtain⟨gs,a7⟩:∃ gs,(fy Y os d).heap.size=gs:=⟨_,rfl⟩
   rw[a7] at es;rw[kH] at a7;rw[a7];generalize (fy Y os d).alloc _=Q7 at a2 es |-;have hc:=fun k=>Sw Q7 gs k _ _ (0,0) es;have v0:Rb Q7 ⟨gs,0,C⟩=D (V nm):=hc 0;have v1:Rb Q7 ⟨gs,1,C⟩=D (J Z (a:Int)):=hc 1;have v2:Rb Q7 ⟨gs,2,C⟩=D (J Z (z:Int)):=hc 2;have u0:=jX a2 y0;have u1:=jX a2 y1;have h3:=Ty.up _ h2 a2;have vl:gs<Q7.heap.size:=(blt es)
   have ul:g0<Q7.heap.size:=Ri yl a2.size;clear hc es ah ai aj z0 z1 ad ae af p1 p2 p3 a7;have aH:(j:Int)<=(a0.length:Int):=K9;have aF:(j:Int)<=(c:Int):=K9;go_loopw [52] (fun y we=>∃ m:Nat,y=J Z m/\m<=j/\Hid (∀(i:Nat) (y:fC),i<m->a0[i]?=D y->y.pu≠nm)/\Hid (fu Q7 we)) (fun y _=>j-(RS y).toNat)
   case atStart=>exact⟨0,rfl,Rl _,fh (fun i y h=>absurd h (UR _)),fh (fu.refl _)⟩
   case round=>
    obtain⟨m,rfl,hm,hne,hG⟩:=hrel;obtain⟨a3,d2,rfl⟩:=hG.out;clear hG;by_cases hml:m<j
    ·obtain⟨g2,az,y,ab,aq,a6,aw,ax,ay,aB,aC,aD⟩:=qD h3 (k:=m) K9
     injection ab with ab
     injection ab with e1 e2
     subst e1 e2;have aI:(m:Int)<(j:Int):=K9;have k0:=zd aw a3 d2;have k1:=zd ax a3 d2;have k2:=zd ay a3 d2;have r0:=zd v0 a3 d2;obtain⟨yn,ys,yz⟩:=y;simp only at k0 k1 k2 a6;by_cases he:yn=nm
     ·subst he
      have HF:=fh (show jr code a0 [] 0=I from by
       rw[a8.out];have:yn∈(a0.take j).map fC.pu:=Ul.2 ⟨_,Rt (i:=m) (by rw[Tc,Rs hml];exact a6),rfl⟩;have ap:((a0.take j).map fC.pu).any (fun y=>decide (y=yn))=M:=Ts.2 ⟨yn,this,II⟩;rw[ap]
       rfl)
      clear a6;go_wp2_with(fail);go_ret;exact⟨zp (by rw[HQ.out,HF.out]),(a1.trans a2).trans gF⟩
     ·have aJ:(yn.toList == nm.toList)=I:=by rw[lC,Rk he]
      have HE:=fh he;have HYK:=fh a6;clear he a6;exact Xl
    ·obtain rfl:m=j:=K9
     have aL:=zd u0 a3 d2;have aM:=zd u1 a3 d2;have aN:=zd v1 a3 d2;have aO:=zd v2 a3 d2
     have ar:((a0.take m).map fC.pu).any (fun y=>decide (y=nm))=I:=by
      cases hcc:((a0.take m).map fC.pu).any (fun y=>decide (y=nm))
      ·rfl
      ·obtain⟨yn,hyn,hye2⟩:=Ts.1 hcc
       exact uT
     have a4:=a8.out;rw[ar] at a4;simp only[Vf,TP] at a4;clear hne a8;have a5:(code.extract a (a+z)).size<=1099511627776:=by rw[UG];omega
     obtain⟨b,hb⟩:∃ b,kV (code.extract a (a+z)) 0=b:=⟨_,rfl⟩
     rw[hb] at a4;have HB:=fh hb;have w1:Rg Z ((a:Int)+(z:Int))=(a:Int)+(z:Int):=SG _ K9;have w2:(a:Int)+(z:Int)<=(code.size:Int):=K9;have w3:(a:Int)<=(a:Int)+(z:Int):=K9;have w4:(0:Int)<=(a:Int)+(z:Int):=K9;clear hb;cases b with
     | false=>
      have HF:=fh (show jr code a0 [] 0=I from by rw[a4];rfl);clear a4;go_wp2_with(go_at_call 144;(with_reducible refine(zwT (code.extract a (a+z)) _ a5).mono ?_);rw[HB.out];rintro e w4 ⟨A4,n4,c4,rfl,aA,d4,rfl⟩);go_ret;exact⟨zp (by rw[HQ.out,HF.out]),(a1.trans a2).trans gF⟩
     | true=>
      have HF:=fh (show jr code (a0.drop (m+1)) ((a0.take (m+1)).map fC.pu) (a+z)=jr code a0 [] 0 from by rw[a4];simp);clear a4;go_wp2_with(go_at_call 144;(with_reducible refine(zwT (code.extract a (a+z)) _ a5).mono ?_);rw[HB.out];rintro e w4 ⟨A4,n4,c4,rfl,aA,d4,rfl⟩);go_roundw;exact⟨m+1,a+z,Ar,Ar,K9,K9,HF,fh (a2.trans gF)⟩;exact gM
  ·obtain rfl:j=a0.length:=K9
   have ac:=hE.out;rw[RL] at ac
   have HF:=fh (show ((a:Int) == (code.size:Int))=jr code a0 [] 0 from by
    rw[<-ac];simp only[jr];by_cases h:a=code.size
    ·simp[h]
    ·simp[h];omega)
   have z0:=zd y0 os d;clear hE ac;go_wp2_with(fail);go_ret;exact⟨zp (by rw[HQ.out,<-HF.out]),a1.trans gF⟩
theorem ze0 {i:gv} (h1:(jm.sl 137).R w w.heap.size [G A i.fm.length c] i.fm)(hs:i.Code.size<=1099511627776)(hn:i.fm.length<=1099511627776) :
  RD prog 81 #[.agg #[V i.Code,G A i.fm.length c]] w fun e w'=>e=.returned (H (jw i))/\fu w w':=by
 obtain⟨_,_,av,aw,ao⟩:=kJ h1;injection av with e1 e2 e3
 subst e1 e3;clear e2;obtain⟨code,a0⟩:=i;simp only at h1 hs hn aw ao |-;have HQ:=fh (show jw ⟨code,a0⟩=(jr code a0 [] 0 && decide (code.size<=1000000)) from by simp[jw,Bool.and_comm]);go_enter func81,ntmps81;go_wp2_with(fail);have a1:fu w (w.alloc (F #[V code,G A a0.length c] 103)):=gG;have eb:=Re w (F #[V code,G A a0.length c] 103);have h2:=Ty.up _ h1 a1;obtain⟨g0,ak⟩:∃ g0,w.heap.size=g0:=⟨_,rfl⟩
 rw[ak] at eb |-;generalize w.alloc _=Y at a1 eb h2 |-;clear h1 ak;obtain⟨y0,y1,_,_,yl⟩:=jT eb;go_loopw [3,4] (fun x y wr=>∃(j a:Nat),x=J Z a/\y=J Z j/\j<=a0.length/\a<=code.size/\Hid (jr code (a0.drop j) ((a0.take j).map fC.pu) a=jr code a0 [] 0)/\Hid (fu Y wr)) (fun _ y _=>a0.length-(RS y).toNat)
 case atStart=>exact⟨0,0,rfl,rfl,Rl _,Rl _,fh rfl,fh (fu.refl _)⟩
 case round=>
  obtain⟨j,a,rfl,rfl,hj,ha,hE,hG⟩:=hrel;obtain⟨os,d,rfl⟩:=hG.out;clear hG;by_cases hlt:j<a0.length
  ·obtain⟨g,aM,x,rfl,aG,al,ad,ae,af,ab,am,an⟩:=qD h2 hlt
   have hF:=Ip (code:=code) (a:=a) (prev:=(a0.take j).map fC.pu) al;rw[hE.out] at hF;have aa:=fh (F5 al);have ah:=zd ad os d;have ai:=zd ae os d;have aj:=zd af os d;have z0:=zd y0 os d;have z1:=zd y1 os d;have aI:(j:Int)<(a0.length:Int):=K9;clear hE;obtain⟨nm,st,sz⟩:=x;simp only at hF ad ae af ab am an ah ai aj aa;by_cases q1:st=(a:Int)
   case neg=>
    have HF:=fh (show jr code a0 [] 0=I from by rw[hF];simp[q1]);have p1:(st != (a:Int))=M:=by simp[q1]
    clear hF;go_wp2_with(fail);go_ret;exact⟨zp (by rw[HQ.out,HF.out];rfl),a1.trans gF⟩
   subst q1;have p1:(((a:Nat):Int) != (a:Int))=I:=II;by_cases q2:1<=sz
   case neg=>
    have HF:=fh (show jr code a0 [] 0=I from by rw[hF];simp[q2]);have p2:decide (sz<1)=M:=Rp K9;clear hF;go_wp2_with(fail);go_ret;exact⟨zp (by rw[HQ.out,HF.out];rfl),a1.trans gF⟩
   have p2:decide (sz<1)=I:=Rk K9;by_cases q3:sz<=(code.size:Int)-a
   case neg=>
    have HF:=fh (show jr code a0 [] 0=I from by rw[hF];simp[q3]);have p3:decide ((code.size:Int)-a<sz)=M:=Rp K9;clear hF;go_wp2_with(fail);go_ret;exact⟨zp (by rw[HQ.out,HF.out];rfl),a1.trans gF⟩
   have p3:decide ((code.size:Int)-a<sz)=I:=Rk K9;obtain⟨z,rfl⟩:=RE (show 0<=sz from K9);cases q4:kZ nm
   case false=>
    have HF:=fh (show jr code a0 [] 0=I from by rw[hF];simp[q4]);have HN:=fh q4;clear hF q4;go_wp2_with(go_at_call 133;(with_reducible refine(rr nm _ ab).mono ?_);rw[HN.out];rintro e w1 ⟨rfl,rfl⟩);go_ret;exact⟨zp (by rw[HQ.out,HF.out];rfl),a1.trans gF⟩
   have HN:=fh q4
   have ag:jr code a0 [] 0=(!((a0.take j).map fC.pu).any (fun y=>decide (y=nm)) && kV (code.extract a (a+z)) 0 && jr code (a0.drop (j+1)) ((a0.take (j+1)).map fC.pu) (a+z)):=by
    rw[hF,aa.out,q4];simp[q2,q3]
   have a9:=fh ag;clear hF ag q4 aa;go_wp2_with(go_at_call 133;(with_reducible refine(rr nm _ ab).mono ?_);rw[HN.out];rintro e w1 ⟨rfl,rfl⟩);have a3:fu Y ((fy Y os d).alloc (F #[V nm,J Z (a:Int),J Z (z:Int)] 137)):=gG;have es:=Re (fy Y os d) (F #[V nm,J Z (a:Int),J Z (z:Int)] 137);obtain⟨gs,a8⟩:∃ gs,(fy Y os d).heap.size=gs:=⟨_,rfl⟩
   rw[a8] at es;rw[kH] at a8;rw[a8];generalize (fy Y os d).alloc _=Q7 at a3 es |-;have hc:=fun k=>Sw Q7 gs k _ _ (0,0) es;have v0:Rb Q7 ⟨gs,0,C⟩=D (V nm):=hc 0;have v1:Rb Q7 ⟨gs,1,C⟩=D (J Z (a:Int)):=hc 1;have v2:Rb Q7 ⟨gs,2,C⟩=D (J Z (z:Int)):=hc 2;have u0:=jX a3 y0;have u1:=jX a3 y1;have h3:=Ty.up _ h2 a3;have vl:gs<Q7.heap.size:=(blt es)
   have ul:g0<Q7.heap.size:=Ri yl a3.size;clear hc es ah ai aj z0 z1 ad ae af p1 p2 p3 a8;have aJ:(j:Int)<=(a0.length:Int):=K9;have aH:(j:Int)<=(c:Int):=K9;go_loopw [6] (fun y we=>∃ m:Nat,y=J Z m/\m<=j/\Hid (∀(i:Nat) (y:fC),i<m->a0[i]?=D y->y.pu≠nm)/\Hid (fu Q7 we)) (fun y _=>j-(RS y).toNat)
   case atStart=>exact⟨0,rfl,Rl _,fh (fun i y h=>absurd h (UR _)),fh (fu.refl _)⟩
   case round=>
    obtain⟨m,rfl,hm,hne,hG⟩:=hrel;obtain⟨a2,d2,rfl⟩:=hG.out;clear hG;by_cases hml:m<j
    ·obtain⟨g2,aA,y,ac,aq,a7,ax,ay,az,aD,aE,aF⟩:=qD h3 (k:=m) K9
     injection ac with ac
     injection ac with e1 e2
     subst e1 e2;have aK:(m:Int)<(j:Int):=K9;have ar:(m:Int)<(a0.length:Int):=K9;have aC:=zd u1 a2 d2;have k0:=zd ax a2 d2;have k1:=zd ay a2 d2;have k2:=zd az a2 d2;have r0:=zd v0 a2 d2;obtain⟨yn,ys,yz⟩:=y;simp only at k0 k1 k2 a7;by_cases he:yn=nm
     ·subst he
      have HF:=fh (show jr code a0 [] 0=I from by
       rw[a9.out];have:yn∈(a0.take j).map fC.pu:=Ul.2 ⟨_,Rt (i:=m) (by rw[Tc,Rs hml];exact a7),rfl⟩;have ap:((a0.take j).map fC.pu).any (fun y=>decide (y=yn))=M:=Ts.2 ⟨yn,this,II⟩;rw[ap]
       rfl)
      clear a7;go_wp2_with(fail);go_quiet (fail);go_wp2_with(fail);go_ret;exact⟨zp (by rw[HQ.out,HF.out];rfl),(a1.trans a3).trans gF⟩
     ·have aL:(yn.toList == nm.toList)=I:=by rw[lC,Rk he]
      have HE:=fh he;have HYK:=fh a7;clear he a7;go_wp2_with(fail);go_quiet (fail);exact Xl
    ·obtain rfl:m=j:=K9
     have aN:=zd u0 a2 d2;have aC:=zd u1 a2 d2;have aO:=zd v1 a2 d2;have aP:=zd v2 a2 d2
     have au:((a0.take m).map fC.pu).any (fun y=>decide (y=nm))=I:=by
      cases hcc:((a0.take m).map fC.pu).any (fun y=>decide (y=nm))
      ·rfl
      ·obtain⟨yn,hyn,hye2⟩:=Ts.1 hcc
       exact uT
     have a4:=a9.out;rw[au] at a4;simp only[Vf,TP] at a4;clear hne a9;have a6:(code.extract a (a+z)).size<=1099511627776:=by rw[UG];omega
     obtain⟨b,hb⟩:∃ b,kV (code.extract a (a+z)) 0=b:=⟨_,rfl⟩
     rw[hb] at a4;have HB:=fh hb;have w1:Rg Z ((a:Int)+(z:Int))=(a:Int)+(z:Int):=SG _ K9;have w2:(a:Int)+(z:Int)<=(code.size:Int):=K9;have w3:(a:Int)<=(a:Int)+(z:Int):=K9;have w4:(0:Int)<=(a:Int)+(z:Int):=K9;clear hb;cases b with
     | false=>
      have HF:=fh (show jr code a0 [] 0=I from by rw[a4];rfl);clear a4;go_wp2_with(go_at_call 134;(with_reducible refine(zwU (code.extract a (a+z)) _ a6).mono ?_);rw[HB.out];rintro e w4 ⟨A4,n4,c4,rfl,aB,d4,rfl⟩);go_ret;exact⟨zp (by rw[HQ.out,HF.out];rfl),(a1.trans a3).trans gF⟩
     | true=>
      have HF:=fh (show jr code (a0.drop (m+1)) ((a0.take (m+1)).map fC.pu) (a+z)=jr code a0 [] 0 from by rw[a4];simp);clear a4;go_wp2_with(go_at_call 134;(with_reducible refine(zwU (code.extract a (a+z)) _ a6).mono ?_);rw[HB.out];rintro e w4 ⟨A4,n4,c4,rfl,aB,d4,rfl⟩);go_roundw;exact⟨m+1,a+z,Ar,Ar,K9,K9,HF,fh (a3.trans gF)⟩;exact gM
  ·obtain rfl:j=a0.length:=K9
   have a5:=hE.out;rw[RL] at a5;have z0:=zd y0 os d;have z1:=zd y1 os d;by_cases h:a=code.size
   ·subst h
    have HF:=fh (show jw ⟨code,a0⟩=decide ((code.size:Int)<=1000000) from by
     rw[HQ.out,<-a5];simp only[jr]
     simp;omega)
    clear hE a5;go_wp2_with(fail);go_ret;exact⟨zp (by rw[HF.out];try simp),a1.trans gF⟩
   ·have HF:=fh (show jw ⟨code,a0⟩=I from by
     rw[HQ.out,<-a5]
     simp[jr,h])
    have p9:((a:Int) == (code.size:Int))=I:=by simp;omega
    clear hE a5;go_wp2_with(fail);go_ret;exact⟨zp (by rw[HF.out];try simp),a1.trans gF⟩
end Go.Proofs.YthgbglbaemelhaaGreat
