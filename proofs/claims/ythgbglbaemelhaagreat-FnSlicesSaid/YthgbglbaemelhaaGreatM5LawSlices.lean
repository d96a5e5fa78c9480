/-
  PART.
-/
import Derived.Test.YthgbglbaemelhaaGreatM2LawSlices
import Derived.Test.YthgbglbaemelhaaGreatM3LawSlices
import Derived.OrdersHeld
set_option linter.unusedVariables false
set_option linter.unusedSimpArgs false
set_option maxRecDepth 100000
set_option maxHeartbeats 8000000
namespace Go.Proofs.YthgbglbaemelhaaGreat
open Value renaming slice->G,int->J,bool->H,string->V
open IntKind renaming i64->C
open Option renaming none->D,some->Z
open Obj renaming cells->F
open Bool renaming false->I,true->M
open Go renaming World->U,Addr->Ri,yielded->Su,undef->TE
open World renaming cell?->QL,frozen?->Rb
open Region renaming wanted->Rx,ready->RL,noSelect->Tn,Mode->Ts,free->Ui
open Tryz
open Go.RowKit
variable {A A0 A1 A2 A3:X Ri}{B c c0 c1 c2 c3 f g i j k m m1 m3 m4 n:Nat}{P:Program}{S S0 S1 S2 S3 S4:Q Nat}{QF W W' u1 u3 u4 w:U}{a:Act}{code:N}{cs:Q Value}{e:TypeId}{listed:Array Bool}{o oi:Oper}{o0 o1 o2 o3 o4 o5 o6 v:Value}{ops:Array Oper}
structure fC where
 Name:N
 Start:Int
 gK:Int
 deriving DecidableEq
def ji:Ty fC:=(iH.prod (zr.prod zr)).via fun x=>(x.Name,x.Start,x.gK)
theorem N2 {x:fC} (h:ji.R w B cs x):cs = [V x.Name,J C x.Start,J C x.gK]/\x.Name.size<=9223372036854775807/\fD x.Start/\fD x.gK:=by
 obtain⟨_,_,rfl,⟨rfl,a2⟩,⟨_,_,rfl,⟨rfl,a0,a1⟩,⟨rfl,a3,a4⟩⟩⟩:=h;exact⟨rfl,a2,⟨a0,a1⟩,⟨a3,a4⟩⟩
theorem EH {x:fC} (h0:x.Name.size<=9223372036854775807)(h1:fD x.Start)(h2:fD x.gK):ji.R w B [V x.Name,J C x.Start,J C x.gK] x:=by
 exact⟨[V x.Name],[J C x.Start,J C x.gK],rfl,⟨rfl,h0⟩,⟨[J C x.Start],[J C x.gK],rfl,⟨rfl,h1.1,h1.2⟩,⟨rfl,h2.1,h2.2⟩⟩⟩
theorem N1 {x:fC} (h:ji.O w cs x S):cs = [V x.Name,J C x.Start,J C x.gK]/\S = []/\x.Name.size<=9223372036854775807/\fD x.Start/\fD x.gK:=by
 obtain⟨_,_,_,_,rfl,rfl,⟨rfl,a2,rfl⟩,⟨_,_,_,_,rfl,rfl,⟨rfl,a0,a1,rfl⟩,⟨rfl,a3,a4,rfl⟩⟩⟩:=h;exact⟨rfl,rfl,a2,⟨a0,a1⟩,⟨a3,a4⟩⟩
theorem K9 {x:fC} (h0:x.Name.size<=9223372036854775807)(h1:fD x.Start)(h2:fD x.gK):ji.O w [V x.Name,J C x.Start,J C x.gK] x ([]):=by
 exact⟨[V x.Name],[J C x.Start,J C x.gK],[],([]++[]),rfl,rfl,⟨rfl,h0,rfl⟩,⟨[J C x.Start],[J C x.gK],[],[],rfl,rfl,⟨rfl,h1.1,h1.2,rfl⟩,⟨rfl,h2.1,h2.2,rfl⟩⟩⟩
structure gu where
 Code:N
 fm:Q fC
 deriving DecidableEq
def iL:Ty gu:=(iH.prod (ji.sl 137)).via fun x=>(x.Code,x.fm)
theorem Ot {x:gu} (h:iL.R w B cs x):∃ A0 c0,cs = [V x.Code,G A0 x.fm.length c0]/\x.Code.size<=9223372036854775807/\(ji.sl 137).R w B [G A0 x.fm.length c0] x.fm:=by
 obtain⟨_,_,rfl,⟨rfl,a1⟩,a0⟩:=h;obtain⟨A0,c0,rfl,_⟩:=id a0;exact⟨A0,c0,rfl,a1,a0⟩
structure gv where
 fq:Q gu
 fu:Q Int
 Entries:Q Int
 deriving DecidableEq
def kV:Ty gv:=((iL.sl 103).prod ((zr.sl 3).prod (zr.sl 3))).via fun x=>(x.fq,x.fu,x.Entries)
theorem G6 {x:gv} (h:kV.R w B cs x):∃ A0 c0 A1 c1 A2 c2,cs = [G A0 x.fq.length c0,G A1 x.fu.length c1,G A2 x.Entries.length c2]/\(iL.sl 103).R w B [G A0 x.fq.length c0] x.fq/\(zr.sl 3).R w B [G A1 x.fu.length c1] x.fu/\(zr.sl 3).R w B [G A2 x.Entries.length c2] x.Entries:=by
 obtain⟨_,_,rfl,a1,⟨_,_,rfl,a2,a0⟩⟩:=h;obtain⟨A0,c0,rfl,_⟩:=id a1;obtain⟨A1,c1,rfl,_⟩:=id a2;obtain⟨A2,c2,rfl,_⟩:=id a0;exact⟨A0,c0,A1,c1,A2,c2,rfl,a1,a2,a0⟩
theorem uj {g:Prop} (f:g:=by
  have h:kV.O w [G A0 x.fq.length c0,G A1 x.fu.length c1,G A2 x.Entries.length c2] x (S0++(S1++S2)):=⟨[G A0 x.fq.length c0],[G A1 x.fu.length c1,G A2 x.Entries.length c2],S0,(S1++S2),rfl,rfl,h0,⟨[G A1 x.fu.length c1],[G A2 x.Entries.length c2],S1,S2,rfl,rfl,h1,h2⟩⟩
  simpa using h):g:=f
theorem Ml {x:gv} (A0:X Ri)(c0:Nat)(S0:Q Nat)(A1:X Ri)(c1:Nat)(S1:Q Nat)(A2:X Ri)(c2:Nat)(S2:Q Nat)(h0:(iL.sl 103).O w [G A0 x.fq.length c0] x.fq S0)(h1:(zr.sl 3).O w [G A1 x.fu.length c1] x.fu S1)(h2:(zr.sl 3).O w [G A2 x.Entries.length c2] x.Entries S2):kV.O w [G A0 x.fq.length c0,G A1 x.fu.length c1,G A2 x.Entries.length c2] x (S0++S1++S2):=by
 exact uj
structure fy where
 Pc:Int
 Sp:Int
 Fp:Int
 Stack:Q Int
 Out:Q Int
 State:Int
 Value:Int
 deriving DecidableEq
def jX:Ty fy:=(zr.prod (zr.prod (zr.prod ((zr.sl 3).prod ((zr.sl 3).prod (zr.prod zr)))))).via fun x=>(x.Pc,x.Sp,x.Fp,x.Stack,x.Out,x.State,x.Value)
theorem Fv {x:fy} (h:jX.R w B cs x):∃ A0 c0 A1 c1,cs = [J C x.Pc,J C x.Sp,J C x.Fp,G A0 x.Stack.length c0,G A1 x.Out.length c1,J C x.State,J C x.Value]/\fD x.Pc/\fD x.Sp/\fD x.Fp/\(zr.sl 3).R w B [G A0 x.Stack.length c0] x.Stack/\(zr.sl 3).R w B [G A1 x.Out.length c1] x.Out/\fD x.State/\fD x.Value:=by
 obtain⟨_,_,rfl,⟨rfl,a7,aa⟩,⟨_,_,rfl,⟨rfl,a8,ab⟩,⟨_,_,rfl,⟨rfl,a6,a9⟩,⟨_,_,rfl,a0,⟨_,_,rfl,a5,⟨_,_,rfl,⟨rfl,a1,a3⟩,⟨rfl,a2,a4⟩⟩⟩⟩⟩⟩⟩:=h;obtain⟨A0,c0,rfl,_⟩:=id a0;obtain⟨A1,c1,rfl,_⟩:=id a5;exact⟨A0,c0,A1,c1,rfl,⟨a7,aa⟩,⟨a8,ab⟩,⟨a6,a9⟩,a0,a5,⟨a1,a3⟩,⟨a2,a4⟩⟩
theorem BZ {x:fy} (h:jX.O w cs x S):∃ A0 c0 S0 A1 c1 S1,cs = [J C x.Pc,J C x.Sp,J C x.Fp,G A0 x.Stack.length c0,G A1 x.Out.length c1,J C x.State,J C x.Value]/\S=S0++S1/\fD x.Pc/\fD x.Sp/\fD x.Fp/\(zr.sl 3).O w [G A0 x.Stack.length c0] x.Stack S0/\(zr.sl 3).O w [G A1 x.Out.length c1] x.Out S1/\fD x.State/\fD x.Value:=by
 obtain⟨_,_,_,_,rfl,rfl,⟨rfl,a7,aa,rfl⟩,⟨_,_,_,_,rfl,rfl,⟨rfl,a8,ab,rfl⟩,⟨_,_,_,_,rfl,rfl,⟨rfl,a6,a9,rfl⟩,⟨_,_,_,_,rfl,rfl,a0,⟨_,_,_,_,rfl,rfl,a5,⟨_,_,_,_,rfl,rfl,⟨rfl,a1,a3,rfl⟩,⟨rfl,a2,a4,rfl⟩⟩⟩⟩⟩⟩⟩:=h;obtain⟨A0,c0,_,_,rfl,_⟩:=id a0;obtain⟨A1,c1,_,_,rfl,_⟩:=id a5;exact⟨A0,c0,_,A1,c1,_,rfl,by simp,⟨a7,aa⟩,⟨a8,ab⟩,⟨a6,a9⟩,a0,a5,⟨a1,a3⟩,⟨a2,a4⟩⟩
structure fK where
 fo:gv
 fk:Q fy
 fO:Int
 Left:Int
 Slice:Int
 deriving DecidableEq
def mS:Ty fK:=(kV.prod ((jX.sl 41).prod (zr.prod (zr.prod zr)))).via fun x=>(x.fo,x.fk,x.fO,x.Left,x.Slice)
theorem Mk {x:fK} (h:mS.R w B cs x):∃ A0 c0 A1 c1 A2 c2 A3 c3,cs = [G A0 x.fo.fq.length c0,G A1 x.fo.fu.length c1,G A2 x.fo.Entries.length c2,G A3 x.fk.length c3,J C x.fO,J C x.Left,J C x.Slice]/\(iL.sl 103).R w B [G A0 x.fo.fq.length c0] x.fo.fq/\(zr.sl 3).R w B [G A1 x.fo.fu.length c1] x.fo.fu/\(zr.sl 3).R w B [G A2 x.fo.Entries.length c2] x.fo.Entries/\(jX.sl 41).R w B [G A3 x.fk.length c3] x.fk/\fD x.fO/\fD x.Left/\fD x.Slice:=by
 obtain⟨_,_,rfl,⟨_,_,rfl,a1,⟨_,_,rfl,a2,a0⟩⟩,⟨_,_,rfl,a3,⟨_,_,rfl,⟨rfl,a7,a9⟩,⟨_,_,rfl,⟨rfl,a6,a8⟩,⟨rfl,a4,a5⟩⟩⟩⟩⟩:=h;obtain⟨A0,c0,rfl,_⟩:=id a1;obtain⟨A1,c1,rfl,_⟩:=id a2;obtain⟨A2,c2,rfl,_⟩:=id a0;obtain⟨A3,c3,rfl,_⟩:=id a3;exact⟨A0,c0,A1,c1,A2,c2,A3,c3,rfl,a1,a2,a0,a3,⟨a7,a9⟩,⟨a6,a8⟩,⟨a4,a5⟩⟩
theorem Mj {x:fK} (h:mS.O w cs x S):∃ A0 c0 S0 A1 c1 S1 A2 c2 S2 A3 c3 S3,cs = [G A0 x.fo.fq.length c0,G A1 x.fo.fu.length c1,G A2 x.fo.Entries.length c2,G A3 x.fk.length c3,J C x.fO,J C x.Left,J C x.Slice]/\S=S0++S1++S2++S3/\(iL.sl 103).O w [G A0 x.fo.fq.length c0] x.fo.fq S0/\(zr.sl 3).O w [G A1 x.fo.fu.length c1] x.fo.fu S1/\(zr.sl 3).O w [G A2 x.fo.Entries.length c2] x.fo.Entries S2/\(jX.sl 41).O w [G A3 x.fk.length c3] x.fk S3/\fD x.fO/\fD x.Left/\fD x.Slice:=by
 obtain⟨_,_,_,_,rfl,rfl,⟨_,_,_,_,rfl,rfl,a1,⟨_,_,_,_,rfl,rfl,a2,a0⟩⟩,⟨_,_,_,_,rfl,rfl,a3,⟨_,_,_,_,rfl,rfl,⟨rfl,a7,a9,rfl⟩,⟨_,_,_,_,rfl,rfl,⟨rfl,a6,a8,rfl⟩,⟨rfl,a4,a5,rfl⟩⟩⟩⟩⟩:=h;obtain⟨A0,c0,_,_,rfl,_⟩:=id a1;obtain⟨A1,c1,_,_,rfl,_⟩:=id a2;obtain⟨A2,c2,_,_,rfl,_⟩:=id a0;obtain⟨A3,c3,_,_,rfl,_⟩:=id a3;exact⟨A0,c0,_,A1,c1,_,A2,c2,_,A3,c3,_,rfl,by simp,a1,a2,a0,a3,⟨a7,a9⟩,⟨a6,a8⟩,⟨a4,a5⟩⟩
def jl (code:N):Q fC->Q N->Nat->Bool
 | [],_,a=>decide (a=code.size)
 | x::r,prev,a=>decide (x.Start=(a:Int)) && decide (1<=x.gK) && decide (x.gK<=(code.size:Int)-a) && kU x.Name && !prev.any (fun y=>decide (y=x.Name)) && kS (code.extract a (a+x.gK.toNat)) 0 && jl code r (prev++[x.Name]) (a+x.gK.toNat)
def jr (i:gu):Bool:=decide (i.Code.size<=1000000) && jl i.Code i.fm [] 0
def pW (x:fC)(off:Int):Bool:=fT x.Start 0 1000000 && fT x.gK 0 1000000 && decide (x.Start<=off) && decide (off<x.Start+x.gK)
def mJ:Q fC->Int->Nat->Int
 | [],_,_=>-1
 | x::r,off,k=>if pW x off=M then (k:Int) else mJ r off (k+1)
theorem My {x:fC} {r:Q fC} {prev:Q N} {a:Nat} (h:jl code (x::r) prev a=M) :
  x.Start=(a:Int)/\1<=x.gK/\x.gK<=(code.size:Int)-a/\jl code r (prev++[x.Name]) (a+x.gK.toNat)=M:=by
 simp only[jl,Q4,Rg] at h;exact⟨h.1.1.1.1.1.1,h.1.1.1.1.1.2,h.1.1.1.1.2,h.2⟩
theorem Ap (hc:code.size<=1000000):∀(l:Q fC)(prev:Q N)(a k0:Nat),jl code l prev a=M->∀ x∈l,(∃ k y,mJ l x.Start k0=((k0+k:Nat):Int)/\l[k]?=Z y/\y.Start=x.Start)/\(a:Int)<=x.Start/\x.Start+1<=code.size:=by
 intro l;induction l with
 | nil=>intro prev a k0 _ x hx;cases hx
 | cons y r ih=>
  intro prev a k0 h x hx;obtain⟨h1,h2,h3,h4⟩:=My h;rcases Rp.1 hx with rfl | hx
  ·refine⟨⟨0,x,?_,rfl,rfl⟩,by omega,by omega⟩
   have:pW x x.Start=M:=by
    unfold pW;rw[pU (by omega) (by omega),pU (by omega) (by omega)];simp;omega
   simp[mJ,this]
  ·obtain⟨⟨k,z,e1,e2,e3⟩,e4,e5⟩:=ih _ _ (k0+1) h4 x hx
   refine⟨⟨k+1,z,?_,e2,e3⟩,by omega,e5⟩
   have:pW y x.Start=I:=by
    unfold pW;simp;omega
   simp only[mJ,this];rw[QZ (by simp),e1];congr 1;omega
theorem Fu:∀(l:Q fC)(off:Int)(k0:Nat),mJ l off k0 = -1∨∃ k x,mJ l off k0=((k0+k:Nat):Int)/\l[k]?=Z x/\x∈l:=by
 intro l;induction l with
 | nil=>intro off k0;exact .inl rfl
 | cons x r ih=>
  intro off k0;simp only[mJ];split
  ·exact .inr ⟨0,x,by simp,rfl,by simp⟩
  ·rcases ih off (k0+1) with h | ⟨k,y,h1,h2,h3⟩
   ·exact .inl h
   ·exact .inr ⟨k+1,y,by rw[h1];congr 1;omega,h2,by simp[h3]⟩
def jy:Q gu->Q Int->Int->Nat->Int × Int
 | i::is,b::bs,a,k=>if b<=a/\a<b+i.Code.size then ((k:Int),a-b) else jy is bs a (k+1)
 | _,_,_,_=>(-1,-1)
def loc (s:gv)(a:Int):Int × Int:=jy s.fq s.fu a 0
def kG (s:gv)(e:Int):Bool:=(s.fq.zip s.fu).any fun p=>p.1.fm.any fun x=>decide (p.2+x.Start=e)
def qh (s:gv)(e:Int):Bool:=
 match s.fq[(loc s e).1.toNat]? with
 | none=>I
 | some i=>decide (0<=(loc s e).1) && (match i.fm[(mJ i.fm (loc s e).2 0).toNat]? with
  | none=>I
  | some x=>decide (0<=mJ i.fm (loc s e).2 0) && decide (x.Start=(loc s e).2))
def AQ (s:gv):Bool:=
 match s.fq,s.fu with
 | [i,j],[a,b]=>decide (0<i.Code.size) && decide (0<j.Code.size) && decide (a<b+j.Code.size) && decide (b<a+i.Code.size)
 | _,_=>M
def zU (s:gv):Bool:=
 decide (s.fq.length=2) && decide (s.fu.length=2) && fT s.Entries.length 1 6 && s.fq.all jr && s.fu.all (fun b=>fT b 1 1000000) && !AQ s && s.Entries.all (kG s)
theorem PM {i j:gu} {a b:Int} {es:Q Int} (hi:jr i=M)(hj:jr j=M)(ha:1<=a)(hb:1<=b)(ho:¬ (0<i.Code.size/\0<j.Code.size/\a<b+j.Code.size/\b<a+i.Code.size))(e:Int) :
  qh ⟨[i,j],[a,b],es⟩ e=kG ⟨[i,j],[a,b],es⟩ e:=by
 simp only[jr,Q4,Rg] at hi hj;obtain⟨ci,fi⟩:=hi;obtain⟨cj,fj⟩:=hj
 have a0:qh ⟨[i,j],[a,b],es⟩ e=M↔kG ⟨[i,j],[a,b],es⟩ e=M:=by
  simp only[kG,List.zip_cons_cons,List.zip_nil_right,List.any_cons,List.any_nil,Bool.or_false,Uu,SR,Rg];constructor
  ·intro h
   have hl:(loc ⟨[i,j],[a,b],es⟩ e=(0,e-a))∨(loc ⟨[i,j],[a,b],es⟩ e=(1,e-b))∨loc ⟨[i,j],[a,b],es⟩ e=(-1,-1):=by
    simp only[loc,jy];split
    ·simp
    ·split
     ·simp
     ·simp
   have hz:∀(l:Q fC) (o:Int),(match l[(mJ l o 0).toNat]? with
     | none=>I
     | some x=>decide (0<=mJ l o 0) && decide (x.Start=o))=M->∃ x∈l,x.Start=o:=by
    intro l o h;split at h
    ·cases h
    ·rename_i x hx
     simp only[Q4,Rg] at h;exact⟨x,Q9 hx,h.2⟩
   unfold qh at h;rcases hl with hl | hl | hl
   ·rw[hl] at h
    simp at h;obtain⟨x,hx,hs⟩:=hz i.fm (e-a) (by simpa using h);exact .inl ⟨x,hx,by omega⟩
   ·rw[hl] at h
    simp at h;obtain⟨x,hx,hs⟩:=hz j.fm (e-b) (by simpa using h);exact .inr ⟨x,hx,by omega⟩
   ·rw[hl] at h
    simp at h
  ·intro h
   rcases h with⟨x,hx,he⟩ | ⟨x,hx,he⟩
   ·obtain⟨⟨k,y,e1,e2,e3⟩,e4,e5⟩:=Ap ci i.fm [] 0 0 fi x hx
    have hl:loc ⟨[i,j],[a,b],es⟩ e=(0,x.Start):=by
     simp only[loc,jy];rw[Q5 (by omega)];simp;omega
    unfold qh;rw[hl];simp[e1,e2,e3]
   ·obtain⟨⟨k,y,e1,e2,e3⟩,e4,e5⟩:=Ap cj j.fm [] 0 0 fj x hx
    have hl:loc ⟨[i,j],[a,b],es⟩ e=(1,x.Start):=by
     simp only[loc,jy];rw[QZ (by omega),Q5 (by omega)];simp;omega
    unfold qh;rw[hl];simp[e1,e2,e3]
 cases h1:qh ⟨[i,j],[a,b],es⟩ e <;> cases h2:kG ⟨[i,j],[a,b],es⟩ e <;> simp_all
def sJ (x:fC):Nat:=x.Name.size
theorem qm {xs:Q fC} (h:(ji.sl e).R w B [G A n c] xs){k:Nat}(hk:k<xs.length) :
  ∃ g off x ,A=Z ⟨g,off,D⟩/\g<B/\xs[k]?=Z x/\QL w ⟨g,off+k*3,D⟩=Z (V x.Name)/\QL w ⟨g,off+k*3+1,D⟩=Z (J C x.Start)/\QL w ⟨g,off+k*3+2,D⟩=Z (J C x.gK)/\x.Name.size<=9223372036854775807/\fD x.Start/\fD x.gK:=by
 obtain⟨g,off,x,ec,h1,hB,h2,h3,h4⟩:=nP h hk;obtain⟨rfl,hf⟩:=N2 h3;exact⟨g,off,x,h1,hB,h2,h4 0 _ rfl,h4 1 _ rfl,h4 2 _ rfl,hf⟩
theorem Jm:(prog.info? 137).map (fun i=>(i.zero,i.size,i.bytes))=Z (Z (.agg #[V ⟨#[]⟩,J C 0,J C 0]),3,32):=by kernel_rfl
theorem yS:kA ji:=wQ _ (oG lq (oG zD zD))
theorem Az:gZ prog 101 137 ji 32:=by
 obtain⟨i0,hi,a0,a1,a2⟩:=SJ Jm;exact⟨underlying101,⟨i0,_,hi,a0,a1,a2,rfl⟩,by decide⟩
def Nw (x:gu)(w:U)(r:Ending)(w':U):Prop:=∃ A0 c0,r=.returned (.agg #[V x.Code,G A0 x.fm.length c0])/\fU iL w w' [V x.Code,G A0 x.fm.length c0] x/\ft w w'
theorem yO {x:gu} (h0:x.Code.size<=9223372036854775807)(h1:(ji.sl 137).O w [G A0 x.fm.length c0] x.fm S1):iL.O w [V x.Code,G A0 x.fm.length c0] x (S1):=by
 have h:iL.O w [V x.Code,G A0 x.fm.length c0] x ([]++S1):=⟨[V x.Code],[G A0 x.fm.length c0],[],S1,rfl,rfl,⟨rfl,h0,rfl⟩,h1⟩
 simpa using h
theorem JN {x:gu} (h0:x.Code.size<=9223372036854775807)(h1:kC (ji.sl 137) u1 m1 W [G A0 x.fm.length c0] x.fm)(hw1:w.heap.size<=u1.heap.size):fU iL w W [V x.Code,G A0 x.fm.length c0] x:=by
 obtain⟨S1,a2,a1,a0⟩:=h1;exact⟨_,yO h0 a2,a1,fun b hb=>(by have:=a0 b hb;omega)⟩
def lV (x:gu):Nat:=x.Code.size+lH sJ x.fm
theorem qW {xs:Q gu} (h:(iL.sl e).R w B [G A n c] xs){k:Nat}(hk:k<xs.length) :
  ∃ g off x A0 c0,A=Z ⟨g,off,D⟩/\g<B/\xs[k]?=Z x/\QL w ⟨g,off+k*2,D⟩=Z (V x.Code)/\QL w ⟨g,off+k*2+1,D⟩=Z (G A0 x.fm.length c0)/\x.Code.size<=9223372036854775807/\(ji.sl 137).R w B [G A0 x.fm.length c0] x.fm:=by
 obtain⟨g,off,x,ec,h1,hB,h2,h3,h4⟩:=nP h hk;obtain⟨A0,c0,rfl,hf⟩:=Ot h3;exact⟨g,off,x,A0,c0,h1,hB,h2,h4 0 _ rfl,h4 1 _ rfl,hf⟩
theorem JI:(prog.info? 103).map (fun i=>(i.zero,i.size,i.bytes))=Z (Z (.agg #[V ⟨#[]⟩,G D 0 0]),2,40):=by kernel_rfl
theorem Ih:gZ prog 25 103 iL 40:=by
 obtain⟨i0,hi,a0,a1,a2⟩:=SJ JI;exact⟨underlying25,⟨i0,_,hi,a0,a1,a2,rfl⟩,by decide⟩
def GN (x:gv)(w:U)(r:Ending)(w':U):Prop:=∃ A0 c0 A1 c1 A2 c2,r=.returned (.agg #[G A0 x.fq.length c0,G A1 x.fu.length c1,G A2 x.Entries.length c2])/\fU kV w w' [G A0 x.fq.length c0,G A1 x.fu.length c1,G A2 x.Entries.length c2] x/\ft w w'
theorem xM {x:gv} (h0:(iL.sl 103).O w [G A0 x.fq.length c0] x.fq S0)(h1:(zr.sl 3).O w [G A1 x.fu.length c1] x.fu S1)(h2:(zr.sl 3).O w [G A2 x.Entries.length c2] x.Entries S2):kV.O w [G A0 x.fq.length c0,G A1 x.fu.length c1,G A2 x.Entries.length c2] x (S0++S1++S2):=by
 exact uj
def jP (x:gv):Nat:=lH lV x.fq+x.fu.length+x.Entries.length
def KQ (x:fy)(w:U)(r:Ending)(w':U):Prop:=∃ A0 c0 A1 c1,r=.returned (.agg #[J C x.Pc,J C x.Sp,J C x.Fp,G A0 x.Stack.length c0,G A1 x.Out.length c1,J C x.State,J C x.Value])/\fU jX w w' [J C x.Pc,J C x.Sp,J C x.Fp,G A0 x.Stack.length c0,G A1 x.Out.length c1,J C x.State,J C x.Value] x/\ft w w'
theorem Bw {x:fy} (h0:fD x.Pc)(h1:fD x.Sp)(h2:fD x.Fp)(h3:(zr.sl 3).O w [G A0 x.Stack.length c0] x.Stack S3)(h4:(zr.sl 3).O w [G A1 x.Out.length c1] x.Out S4)(h5:fD x.State)(h6:fD x.Value):jX.O w [J C x.Pc,J C x.Sp,J C x.Fp,G A0 x.Stack.length c0,G A1 x.Out.length c1,J C x.State,J C x.Value] x (S3++S4):=by
 have h:jX.O w [J C x.Pc,J C x.Sp,J C x.Fp,G A0 x.Stack.length c0,G A1 x.Out.length c1,J C x.State,J C x.Value] x ([]++([]++([]++(S3++(S4++([]++[])))))):=⟨[J C x.Pc],[J C x.Sp,J C x.Fp,G A0 x.Stack.length c0,G A1 x.Out.length c1,J C x.State,J C x.Value],[],([]++([]++(S3++(S4++([]++[]))))),rfl,rfl,⟨rfl,h0.1,h0.2,rfl⟩,⟨[J C x.Sp],[J C x.Fp,G A0 x.Stack.length c0,G A1 x.Out.length c1,J C x.State,J C x.Value],[],([]++(S3++(S4++([]++[])))),rfl,rfl,⟨rfl,h1.1,h1.2,rfl⟩,⟨[J C x.Fp],[G A0 x.Stack.length c0,G A1 x.Out.length c1,J C x.State,J C x.Value],[],(S3++(S4++([]++[]))),rfl,rfl,⟨rfl,h2.1,h2.2,rfl⟩,⟨[G A0 x.Stack.length c0],[G A1 x.Out.length c1,J C x.State,J C x.Value],S3,(S4++([]++[])),rfl,rfl,h3,⟨[G A1 x.Out.length c1],[J C x.State,J C x.Value],S4,([]++[]),rfl,rfl,h4,⟨[J C x.State],[J C x.Value],[],[],rfl,rfl,⟨rfl,h5.1,h5.2,rfl⟩,⟨rfl,h6.1,h6.2,rfl⟩⟩⟩⟩⟩⟩⟩
 simpa using h
theorem Bs {x:fy} (h0:fD x.Pc)(h1:fD x.Sp)(h2:fD x.Fp)(h3:kC (zr.sl 3) u3 m3 W [G A0 x.Stack.length c0] x.Stack)(h4:kC (zr.sl 3) u4 m4 W [G A1 x.Out.length c1] x.Out)(h5:fD x.State)(h6:fD x.Value)(hw3:w.heap.size<=u3.heap.size)(hw4:w.heap.size<=u4.heap.size)(hd3_4:m3<=u4.heap.size∨m4<=u3.heap.size):fU jX w W [J C x.Pc,J C x.Sp,J C x.Fp,G A0 x.Stack.length c0,G A1 x.Out.length c1,J C x.State,J C x.Value] x:=by
 obtain⟨S3,a4,a2,a0⟩:=h3;obtain⟨S4,a5,a3,a1⟩:=h4;exact⟨_,Bw h0 h1 h2 a4 a5 h5 h6,Rs.2 ⟨a2,a3,fun a ha b hb=>(by have h1:=a0 a ha;have h2:=a1 b hb;omega)⟩,fun b hb=>(Q7.1 hb).elim (fun hb=>(by have:=a0 b hb;omega)) (fun hb=>(by have:=a1 b hb;omega))⟩
def lC (x:fy):Nat:=x.Stack.length+x.Out.length
theorem yZ {xs:Q fy} (h:(jX.sl e).R w B [G A n c] xs){k:Nat}(hk:k<xs.length) :
  ∃ g off x A0 c0 A1 c1,A=Z ⟨g,off,D⟩/\g<B/\xs[k]?=Z x/\QL w ⟨g,off+k*7,D⟩=Z (J C x.Pc)/\QL w ⟨g,off+k*7+1,D⟩=Z (J C x.Sp)/\QL w ⟨g,off+k*7+2,D⟩=Z (J C x.Fp)/\QL w ⟨g,off+k*7+3,D⟩=Z (G A0 x.Stack.length c0)/\QL w ⟨g,off+k*7+4,D⟩=Z (G A1 x.Out.length c1)/\QL w ⟨g,off+k*7+5,D⟩=Z (J C x.State)/\QL w ⟨g,off+k*7+6,D⟩=Z (J C x.Value)/\fD x.Pc/\fD x.Sp/\fD x.Fp/\(zr.sl 3).R w B [G A0 x.Stack.length c0] x.Stack/\(zr.sl 3).R w B [G A1 x.Out.length c1] x.Out/\fD x.State/\fD x.Value:=by
 obtain⟨g,off,x,ec,h1,hB,h2,h3,h4⟩:=nP h hk;obtain⟨A0,c0,A1,c1,rfl,hf⟩:=Fv h3;exact⟨g,off,x,A0,c0,A1,c1,h1,hB,h2,h4 0 _ rfl,h4 1 _ rfl,h4 2 _ rfl,h4 3 _ rfl,h4 4 _ rfl,h4 5 _ rfl,h4 6 _ rfl,hf⟩
theorem Jb:(prog.info? 41).map (fun i=>(i.zero,i.size,i.bytes))=Z (Z (.agg #[J C 0,J C 0,J C 0,G D 0 0,G D 0 0,J C 0,J C 0]),7,88):=by kernel_rfl
theorem Gq:gZ prog 32 41 jX 88:=by
 obtain⟨i0,hi,a0,a1,a2⟩:=SJ Jb;exact⟨underlying32,⟨i0,_,hi,a0,a1,a2,rfl⟩,by decide⟩
def KR (x:fK)(w:U)(r:Ending)(w':U):Prop:=∃ A0 c0 A1 c1 A2 c2 A3 c3,r=.returned (.agg #[G A0 x.fo.fq.length c0,G A1 x.fo.fu.length c1,G A2 x.fo.Entries.length c2,G A3 x.fk.length c3,J C x.fO,J C x.Left,J C x.Slice])/\fU mS w w' [G A0 x.fo.fq.length c0,G A1 x.fo.fu.length c1,G A2 x.fo.Entries.length c2,G A3 x.fk.length c3,J C x.fO,J C x.Left,J C x.Slice] x/\ft w w'
theorem yF {x:fK} (h0:kV.O w [G A0 x.fo.fq.length c0,G A1 x.fo.fu.length c1,G A2 x.fo.Entries.length c2] x.fo S0)(h1:(jX.sl 41).O w [G A3 x.fk.length c3] x.fk S1)(h2:fD x.fO)(h3:fD x.Left)(h4:fD x.Slice):mS.O w [G A0 x.fo.fq.length c0,G A1 x.fo.fu.length c1,G A2 x.fo.Entries.length c2,G A3 x.fk.length c3,J C x.fO,J C x.Left,J C x.Slice] x (S0++S1):=by
 have h:mS.O w [G A0 x.fo.fq.length c0,G A1 x.fo.fu.length c1,G A2 x.fo.Entries.length c2,G A3 x.fk.length c3,J C x.fO,J C x.Left,J C x.Slice] x (S0++(S1++([]++([]++[])))):=⟨[G A0 x.fo.fq.length c0,G A1 x.fo.fu.length c1,G A2 x.fo.Entries.length c2],[G A3 x.fk.length c3,J C x.fO,J C x.Left,J C x.Slice],S0,(S1++([]++([]++[]))),rfl,rfl,h0,⟨[G A3 x.fk.length c3],[J C x.fO,J C x.Left,J C x.Slice],S1,([]++([]++[])),rfl,rfl,h1,⟨[J C x.fO],[J C x.Left,J C x.Slice],[],([]++[]),rfl,rfl,⟨rfl,h2.1,h2.2,rfl⟩,⟨[J C x.Left],[J C x.Slice],[],[],rfl,rfl,⟨rfl,h3.1,h3.2,rfl⟩,⟨rfl,h4.1,h4.2,rfl⟩⟩⟩⟩⟩
 simpa using h
def zI (x:fK):Nat:=jP x.fo+lH lC x.fk
theorem jb {cur cur':Array Value} (h:W.heap[g]?=Z (F cur e (0,0)))(hc:cur.setIfInBounds i v=cur'):(W.setCell ⟨g,i,D⟩ v).heap[g]?=Z (F cur' e (0,0)):=by
 rw[zN h i v,hc]
theorem rB (h:W.heap[g]?=Z (F #[o0,o1,o2] e (0,0)))(v0 v1 v2:Value) :
  (((W.setCell ⟨g,0,D⟩ v0).setCell ⟨g,1,D⟩ v1).setCell ⟨g,2,D⟩ v2).heap[g]?=Z (F #[v0,v1,v2] e (0,0))/\fw [g] W (((W.setCell ⟨g,0,D⟩ v0).setCell ⟨g,1,D⟩ v1).setCell ⟨g,2,D⟩ v2):=
 ⟨(jb (i:=2) (v:=v2) (cur':=#[v0,v1,v2]) (jb (i:=1) (v:=v1) (cur':=#[v0,v1,o2]) (jb (i:=0) (v:=v0) (cur':=#[v0,o1,o2]) h rfl) rfl) rfl),((((fw.refl _ _).setCell (p:=⟨g,0,D⟩) (by simp) v0).setCell (p:=⟨g,1,D⟩) (by simp) v1).setCell (p:=⟨g,2,D⟩) (by simp) v2)⟩
theorem jc (h:W.heap[g]?=Z (F #[o0,o1,o2] e (0,0))) :
  QL W ⟨g,0,D⟩=Z o0/\QL W ⟨g,1,D⟩=Z o1/\QL W ⟨g,2,D⟩=Z o2/\(∀ j,Rb W ⟨g,j,D⟩=I)/\g<W.heap.size:=by
 refine⟨?_,?_,?_,fun j=>by simp[Rb,h],(blt h)⟩
 all_goals
  rw[RV W g _ _ _ (0,0) h]
  rfl
theorem sX (h:W.heap[g]?=Z (F #[o0,o1,o2,o3,o4] e (0,0)))(v0 v1 v2 v3 v4:Value) :
  (((((W.setCell ⟨g,0,D⟩ v0).setCell ⟨g,1,D⟩ v1).setCell ⟨g,2,D⟩ v2).setCell ⟨g,3,D⟩ v3).setCell ⟨g,4,D⟩ v4).heap[g]?=Z (F #[v0,v1,v2,v3,v4] e (0,0))/\fw [g] W (((((W.setCell ⟨g,0,D⟩ v0).setCell ⟨g,1,D⟩ v1).setCell ⟨g,2,D⟩ v2).setCell ⟨g,3,D⟩ v3).setCell ⟨g,4,D⟩ v4):=
 ⟨(jb (i:=4) (v:=v4) (cur':=#[v0,v1,v2,v3,v4]) (jb (i:=3) (v:=v3) (cur':=#[v0,v1,v2,v3,o4]) (jb (i:=2) (v:=v2) (cur':=#[v0,v1,v2,o3,o4]) (jb (i:=1) (v:=v1) (cur':=#[v0,v1,o2,o3,o4]) (jb (i:=0) (v:=v0) (cur':=#[v0,o1,o2,o3,o4]) h rfl) rfl) rfl) rfl) rfl),((((((fw.refl _ _).setCell (p:=⟨g,0,D⟩) (by simp) v0).setCell (p:=⟨g,1,D⟩) (by simp) v1).setCell (p:=⟨g,2,D⟩) (by simp) v2).setCell (p:=⟨g,3,D⟩) (by simp) v3).setCell (p:=⟨g,4,D⟩) (by simp) v4)⟩
theorem iY (h:W.heap[g]?=Z (F #[o0,o1,o2,o3,o4] e (0,0))) :
  QL W ⟨g,0,D⟩=Z o0/\QL W ⟨g,1,D⟩=Z o1/\QL W ⟨g,2,D⟩=Z o2/\QL W ⟨g,3,D⟩=Z o3/\QL W ⟨g,4,D⟩=Z o4/\(∀ j,Rb W ⟨g,j,D⟩=I)/\g<W.heap.size:=by
 refine⟨?_,?_,?_,?_,?_,fun j=>by simp[Rb,h],(blt h)⟩
 all_goals
  rw[RV W g _ _ _ (0,0) h]
  rfl
theorem mK (h:W.heap[g]?=Z (F #[o0,o1,o2,o3,o4,o5,o6] e (0,0)))(v0 v1 v2 v3 v4 v5 v6:Value) :
  (((((((W.setCell ⟨g,0,D⟩ v0).setCell ⟨g,1,D⟩ v1).setCell ⟨g,2,D⟩ v2).setCell ⟨g,3,D⟩ v3).setCell ⟨g,4,D⟩ v4).setCell ⟨g,5,D⟩ v5).setCell ⟨g,6,D⟩ v6).heap[g]?=Z (F #[v0,v1,v2,v3,v4,v5,v6] e (0,0))/\fw [g] W (((((((W.setCell ⟨g,0,D⟩ v0).setCell ⟨g,1,D⟩ v1).setCell ⟨g,2,D⟩ v2).setCell ⟨g,3,D⟩ v3).setCell ⟨g,4,D⟩ v4).setCell ⟨g,5,D⟩ v5).setCell ⟨g,6,D⟩ v6):=
 ⟨(jb (i:=6) (v:=v6) (cur':=#[v0,v1,v2,v3,v4,v5,v6]) (jb (i:=5) (v:=v5) (cur':=#[v0,v1,v2,v3,v4,v5,o6]) (jb (i:=4) (v:=v4) (cur':=#[v0,v1,v2,v3,v4,o5,o6]) (jb (i:=3) (v:=v3) (cur':=#[v0,v1,v2,v3,o4,o5,o6]) (jb (i:=2) (v:=v2) (cur':=#[v0,v1,v2,o3,o4,o5,o6]) (jb (i:=1) (v:=v1) (cur':=#[v0,v1,o2,o3,o4,o5,o6]) (jb (i:=0) (v:=v0) (cur':=#[v0,o1,o2,o3,o4,o5,o6]) h rfl) rfl) rfl) rfl) rfl) rfl) rfl),((((((((fw.refl _ _).setCell (p:=⟨g,0,D⟩) (by simp) v0).setCell (p:=⟨g,1,D⟩) (by simp) v1).setCell (p:=⟨g,2,D⟩) (by simp) v2).setCell (p:=⟨g,3,D⟩) (by simp) v3).setCell (p:=⟨g,4,D⟩) (by simp) v4).setCell (p:=⟨g,5,D⟩) (by simp) v5).setCell (p:=⟨g,6,D⟩) (by simp) v6)⟩
theorem zS (h:W.heap[g]?=Z (F #[o0,o1,o2,o3,o4,o5,o6] e (0,0))) :
  QL W ⟨g,0,D⟩=Z o0/\QL W ⟨g,1,D⟩=Z o1/\QL W ⟨g,2,D⟩=Z o2/\QL W ⟨g,3,D⟩=Z o3/\QL W ⟨g,4,D⟩=Z o4/\QL W ⟨g,5,D⟩=Z o5/\QL W ⟨g,6,D⟩=Z o6/\(∀ j,Rb W ⟨g,j,D⟩=I)/\g<W.heap.size:=by
 refine⟨?_,?_,?_,?_,?_,?_,?_,fun j=>by simp[Rb,h],(blt h)⟩
 all_goals
  rw[RV W g _ _ _ (0,0) h]
  rfl
theorem zz (hc:QL QF ⟨g,i,D⟩=Z v)(hg:ft QF W)(hon:fw S W W')(hn:g∉S):QL W' ⟨g,i,D⟩=Z v:=by
 have hl:=RE _ _ hc;simp only at hl;obtain⟨os,d,rfl⟩:=hg;exact(hon.cell (QS hl (ft.of QF os d).size) hn i).trans (zd hc os d)
theorem xX {gp:Nat} {u:Value} (hc:QL W ⟨g,i,D⟩=Z v)(hn:g≠gp):(W.setCell ⟨gp,j,D⟩ u).cell? ⟨g,i,D⟩=Z v:=by
 have hl:=RE _ _ hc;simp only at hl;exact(((fw.refl [gp] W).setCell (p:=⟨gp,j,D⟩) (by simp) u).cell hl (by simpa using hn) i).trans hc
theorem xW {o:Obj} (hb:QF.heap[g]?=Z o)(hg:ft QF W)(hon:fw S W W')(hn:g∉S):W'.heap[g]?=Z o:=by
 have hl:=(blt hb)
 exact(hon.block g (QS hl hg.size) hn).trans (zj hb hg)
theorem Lw {x:fv} (h0:fD x.Kind)(h1:x.Name.size<=9223372036854775807)(h2:(iH.sl 9).O w [G A0 x.fM.length c0] x.fM S2)(h3:(iZ.sl 160).O w [G A1 x.Expr.length c1] x.Expr S3):zJ.O w [J C x.Kind,V x.Name,G A0 x.fM.length c0,G A1 x.Expr.length c1] x (S2++S3):=by
 have h:zJ.O w [J C x.Kind,V x.Name,G A0 x.fM.length c0,G A1 x.Expr.length c1] x ([]++([]++(S2++S3))):=⟨[J C x.Kind],[V x.Name,G A0 x.fM.length c0,G A1 x.Expr.length c1],[],([]++(S2++S3)),rfl,rfl,⟨rfl,h0.1,h0.2,rfl⟩,⟨[V x.Name],[G A0 x.fM.length c0,G A1 x.Expr.length c1],[],(S2++S3),rfl,rfl,⟨rfl,h1,rfl⟩,⟨[G A0 x.fM.length c0],[G A1 x.Expr.length c1],S2,S3,rfl,rfl,h2,h3⟩⟩⟩
 simpa using h
theorem lK {xs:Q fv} (h:(zJ.sl e).R w B [G A n c] xs){k:Nat}(hk:k<xs.length) :
  ∃ g off x A0 c0 A1 c1,A=Z ⟨g,off,D⟩/\g<B/\xs[k]?=Z x/\QL w ⟨g,off+k*4,D⟩=Z (J C x.Kind)/\QL w ⟨g,off+k*4+1,D⟩=Z (V x.Name)/\QL w ⟨g,off+k*4+2,D⟩=Z (G A0 x.fM.length c0)/\QL w ⟨g,off+k*4+3,D⟩=Z (G A1 x.Expr.length c1)/\fD x.Kind/\x.Name.size<=9223372036854775807/\(iH.sl 9).R w B [G A0 x.fM.length c0] x.fM/\(iZ.sl 160).R w B [G A1 x.Expr.length c1] x.Expr:=by
 obtain⟨g,off,x,ec,h1,hB,h2,h3,h4⟩:=nP h hk;obtain⟨A0,c0,A1,c1,rfl,hf⟩:=OX h3;exact⟨g,off,x,A0,c0,A1,c1,h1,hB,h2,h4 0 _ rfl,h4 1 _ rfl,h4 2 _ rfl,h4 3 _ rfl,hf⟩
theorem JP:(prog.info? 99).map (fun i=>(i.zero,i.size,i.bytes))=Z (Z (.agg #[J C 0,V ⟨#[]⟩,G D 0 0,G D 0 0]),4,72):=by kernel_rfl
theorem mT:gZ prog 24 99 zJ 72:=by
 obtain⟨i0,hi,a0,a1,a2⟩:=SJ JP;exact⟨underlying24,⟨i0,_,hi,a0,a1,a2,rfl⟩,by decide⟩
structure gJ where
 Start:Int
 End:Int
 Frame:Bool
 fE:Int
 deriving DecidableEq
def kH:Ty gJ:=(zr.prod (zr.prod (yp.prod zr))).via fun x=>(x.Start,x.End,x.Frame,x.fE)
theorem OZ {x:gJ} (h:kH.R w B cs x):cs = [J C x.Start,J C x.End,H x.Frame,J C x.fE]/\fD x.Start/\fD x.End/\fD x.fE:=by
 obtain⟨_,_,rfl,⟨rfl,a1,a3⟩,⟨_,_,rfl,⟨rfl,a4,a5⟩,⟨_,_,rfl,rfl,⟨rfl,a0,a2⟩⟩⟩⟩:=h;exact⟨rfl,⟨a1,a3⟩,⟨a4,a5⟩,⟨a0,a2⟩⟩
theorem Bu {x:gJ} (h0:fD x.Start)(h1:fD x.End)(h2:fD x.fE):kH.R w B [J C x.Start,J C x.End,H x.Frame,J C x.fE] x:=by
 exact⟨[J C x.Start],[J C x.End,H x.Frame,J C x.fE],rfl,⟨rfl,h0.1,h0.2⟩,⟨[J C x.End],[H x.Frame,J C x.fE],rfl,⟨rfl,h1.1,h1.2⟩,⟨[H x.Frame],[J C x.fE],rfl,rfl,⟨rfl,h2.1,h2.2⟩⟩⟩⟩
theorem OY {x:gJ} (h:kH.O w cs x S):cs = [J C x.Start,J C x.End,H x.Frame,J C x.fE]/\S = []/\fD x.Start/\fD x.End/\fD x.fE:=by
 obtain⟨_,_,_,_,rfl,rfl,⟨rfl,a1,a3,rfl⟩,⟨_,_,_,_,rfl,rfl,⟨rfl,a4,a5,rfl⟩,⟨_,_,_,_,rfl,rfl,⟨rfl,rfl⟩,⟨rfl,a0,a2,rfl⟩⟩⟩⟩:=h;exact⟨rfl,rfl,⟨a1,a3⟩,⟨a4,a5⟩,⟨a0,a2⟩⟩
theorem N0 {x:gJ} (h0:fD x.Start)(h1:fD x.End)(h2:fD x.fE):kH.O w [J C x.Start,J C x.End,H x.Frame,J C x.fE] x ([]):=by
 exact⟨[J C x.Start],[J C x.End,H x.Frame,J C x.fE],[],([]++([]++[])),rfl,rfl,⟨rfl,h0.1,h0.2,rfl⟩,⟨[J C x.End],[H x.Frame,J C x.fE],[],([]++[]),rfl,rfl,⟨rfl,h1.1,h1.2,rfl⟩,⟨[H x.Frame],[J C x.fE],[],[],rfl,rfl,⟨rfl,rfl⟩,⟨rfl,h2.1,h2.2,rfl⟩⟩⟩⟩
structure ir where
 Offset:Int
 fH:Int
 Start:Bool
 deriving DecidableEq
def ly:Ty ir:=(zr.prod (zr.prod yp)).via fun x=>(x.Offset,x.fH,x.Start)
theorem PV {x:ir} (h:ly.R w B cs x):cs = [J C x.Offset,J C x.fH,H x.Start]/\fD x.Offset/\fD x.fH:=by
 obtain⟨_,_,rfl,⟨rfl,a0,a1⟩,⟨_,_,rfl,⟨rfl,a2,a3⟩,rfl⟩⟩:=h;exact⟨rfl,⟨a0,a1⟩,⟨a2,a3⟩⟩
theorem G5 {x:ir} (h0:fD x.Offset)(h1:fD x.fH):ly.R w B [J C x.Offset,J C x.fH,H x.Start] x:=by
 exact⟨[J C x.Offset],[J C x.fH,H x.Start],rfl,⟨rfl,h0.1,h0.2⟩,⟨[J C x.fH],[H x.Start],rfl,⟨rfl,h1.1,h1.2⟩,rfl⟩⟩
structure fQ where
 Start:Int
 End:Int
 Level:Int
 fH:Int
 Name:N
 deriving DecidableEq
def kE:Ty fQ:=(zr.prod (zr.prod (zr.prod (zr.prod iH)))).via fun x=>(x.Start,x.End,x.Level,x.fH,x.Name)
theorem NY {x:fQ} (h:kE.R w B cs x):cs = [J C x.Start,J C x.End,J C x.Level,J C x.fH,V x.Name]/\fD x.Start/\fD x.End/\fD x.Level/\fD x.fH/\x.Name.size<=9223372036854775807:=by
 obtain⟨_,_,rfl,⟨rfl,a1,a3⟩,⟨_,_,rfl,⟨rfl,a7,a8⟩,⟨_,_,rfl,⟨rfl,a0,a2⟩,⟨_,_,rfl,⟨rfl,a4,a6⟩,⟨rfl,a5⟩⟩⟩⟩⟩:=h;exact⟨rfl,⟨a1,a3⟩,⟨a7,a8⟩,⟨a0,a2⟩,⟨a4,a6⟩,a5⟩
theorem EG {x:fQ} (h0:fD x.Start)(h1:fD x.End)(h2:fD x.Level)(h3:fD x.fH)(h4:x.Name.size<=9223372036854775807):kE.R w B [J C x.Start,J C x.End,J C x.Level,J C x.fH,V x.Name] x:=by
 exact⟨[J C x.Start],[J C x.End,J C x.Level,J C x.fH,V x.Name],rfl,⟨rfl,h0.1,h0.2⟩,⟨[J C x.End],[J C x.Level,J C x.fH,V x.Name],rfl,⟨rfl,h1.1,h1.2⟩,⟨[J C x.Level],[J C x.fH,V x.Name],rfl,⟨rfl,h2.1,h2.2⟩,⟨[J C x.fH],[V x.Name],rfl,⟨rfl,h3.1,h3.2⟩,⟨rfl,h4⟩⟩⟩⟩⟩
structure gE where
 Id:Int
 fm:Q fC
 fY:Q gJ
 Rows:Q ir
 fI:Q fQ
 deriving DecidableEq
def me:Ty gE:=(zr.prod ((ji.sl 137).prod ((kH.sl 205).prod ((ly.sl 216).prod (kE.sl 214))))).via fun x=>(x.Id,x.fm,x.fY,x.Rows,x.fI)
theorem G2 {x:gE} (h:me.R w B cs x):∃ A0 c0 A1 c1 A2 c2 A3 c3,cs = [J C x.Id,G A0 x.fm.length c0,G A1 x.fY.length c1,G A2 x.Rows.length c2,G A3 x.fI.length c3]/\fD x.Id/\(ji.sl 137).R w B [G A0 x.fm.length c0] x.fm/\(kH.sl 205).R w B [G A1 x.fY.length c1] x.fY/\(ly.sl 216).R w B [G A2 x.Rows.length c2] x.Rows/\(kE.sl 214).R w B [G A3 x.fI.length c3] x.fI:=by
 obtain⟨_,_,rfl,⟨rfl,a4,a5⟩,⟨_,_,rfl,a1,⟨_,_,rfl,a2,⟨_,_,rfl,a3,a0⟩⟩⟩⟩:=h;obtain⟨A0,c0,rfl,_⟩:=id a1;obtain⟨A1,c1,rfl,_⟩:=id a2;obtain⟨A2,c2,rfl,_⟩:=id a3;obtain⟨A3,c3,rfl,_⟩:=id a0;exact⟨A0,c0,A1,c1,A2,c2,A3,c3,rfl,⟨a4,a5⟩,a1,a2,a3,a0⟩
theorem Lv {x:gE} (A0:X Ri)(c0:Nat)(S0:Q Nat)(A1:X Ri)(c1:Nat)(S1:Q Nat)(A2:X Ri)(c2:Nat)(S2:Q Nat)(A3:X Ri)(c3:Nat)(S3:Q Nat)(h0:fD x.Id)(h1:(ji.sl 137).O w [G A0 x.fm.length c0] x.fm S0)(h2:(kH.sl 205).O w [G A1 x.fY.length c1] x.fY S1)(h3:(ly.sl 216).O w [G A2 x.Rows.length c2] x.Rows S2)(h4:(kE.sl 214).O w [G A3 x.fI.length c3] x.fI S3):me.O w [J C x.Id,G A0 x.fm.length c0,G A1 x.fY.length c1,G A2 x.Rows.length c2,G A3 x.fI.length c3] x (S0++S1++S2++S3):=by
 have h:me.O w [J C x.Id,G A0 x.fm.length c0,G A1 x.fY.length c1,G A2 x.Rows.length c2,G A3 x.fI.length c3] x ([]++(S0++(S1++(S2++S3)))):=⟨[J C x.Id],[G A0 x.fm.length c0,G A1 x.fY.length c1,G A2 x.Rows.length c2,G A3 x.fI.length c3],[],(S0++(S1++(S2++S3))),rfl,rfl,⟨rfl,h0.1,h0.2,rfl⟩,⟨[G A0 x.fm.length c0],[G A1 x.fY.length c1,G A2 x.Rows.length c2,G A3 x.fI.length c3],S0,(S1++(S2++S3)),rfl,rfl,h1,⟨[G A1 x.fY.length c1],[G A2 x.Rows.length c2,G A3 x.fI.length c3],S1,(S2++S3),rfl,rfl,h2,⟨[G A2 x.Rows.length c2],[G A3 x.fI.length c3],S2,S3,rfl,rfl,h3,h4⟩⟩⟩⟩
 simpa using h
structure iV where
 fo:gv
 fX:Q gE
 deriving DecidableEq
def oS:Ty iV:=(kV.prod (me.sl 108)).via fun x=>(x.fo,x.fX)
theorem Lu {x:iV} (A0:X Ri)(c0:Nat)(S0:Q Nat)(A1:X Ri)(c1:Nat)(S1:Q Nat)(A2:X Ri)(c2:Nat)(S2:Q Nat)(A3:X Ri)(c3:Nat)(S3:Q Nat)(h0:(iL.sl 103).O w [G A0 x.fo.fq.length c0] x.fo.fq S0)(h1:(zr.sl 3).O w [G A1 x.fo.fu.length c1] x.fo.fu S1)(h2:(zr.sl 3).O w [G A2 x.fo.Entries.length c2] x.fo.Entries S2)(h3:(me.sl 108).O w [G A3 x.fX.length c3] x.fX S3):oS.O w [G A0 x.fo.fq.length c0,G A1 x.fo.fu.length c1,G A2 x.fo.Entries.length c2,G A3 x.fX.length c3] x (S0++S1++S2++S3):=by
 have h:oS.O w [G A0 x.fo.fq.length c0,G A1 x.fo.fu.length c1,G A2 x.fo.Entries.length c2,G A3 x.fX.length c3] x ((S0++(S1++S2))++S3):=⟨[G A0 x.fo.fq.length c0,G A1 x.fo.fu.length c1,G A2 x.fo.Entries.length c2],[G A3 x.fX.length c3],(S0++(S1++S2)),S3,rfl,rfl,⟨[G A0 x.fo.fq.length c0],[G A1 x.fo.fu.length c1,G A2 x.fo.Entries.length c2],S0,(S1++S2),rfl,rfl,h0,⟨[G A1 x.fo.fu.length c1],[G A2 x.fo.Entries.length c2],S1,S2,rfl,rfl,h1,h2⟩⟩,h3⟩
 simpa using h
theorem Ix {xs:Q gJ} (h:(kH.sl e).R w B [G A n c] xs){k:Nat}(hk:k<xs.length) :
  ∃ g off x ,A=Z ⟨g,off,D⟩/\g<B/\xs[k]?=Z x/\QL w ⟨g,off+k*4,D⟩=Z (J C x.Start)/\QL w ⟨g,off+k*4+1,D⟩=Z (J C x.End)/\QL w ⟨g,off+k*4+2,D⟩=Z (H x.Frame)/\QL w ⟨g,off+k*4+3,D⟩=Z (J C x.fE)/\fD x.Start/\fD x.End/\fD x.fE:=by
 obtain⟨g,off,x,ec,h1,hB,h2,h3,h4⟩:=nP h hk;obtain⟨rfl,hf⟩:=OZ h3;exact⟨g,off,x,h1,hB,h2,h4 0 _ rfl,h4 1 _ rfl,h4 2 _ rfl,h4 3 _ rfl,hf⟩
theorem JQ:(prog.info? 205).map (fun i=>(i.zero,i.size,i.bytes))=Z (Z (.agg #[J C 0,J C 0,H I,J C 0]),4,32):=by kernel_rfl
theorem BH:kA kH:=wQ _ (oG zD (oG zD (oG FR zD)))
theorem CL:gZ prog 104 205 kH 32:=by
 obtain⟨i0,hi,a0,a1,a2⟩:=SJ JQ;exact⟨underlying104,⟨i0,_,hi,a0,a1,a2,rfl⟩,by decide⟩
theorem Dp {xs:Q ir} (h:(ly.sl e).R w B [G A n c] xs){k:Nat}(hk:k<xs.length) :
  ∃ g off x ,A=Z ⟨g,off,D⟩/\g<B/\xs[k]?=Z x/\QL w ⟨g,off+k*3,D⟩=Z (J C x.Offset)/\QL w ⟨g,off+k*3+1,D⟩=Z (J C x.fH)/\QL w ⟨g,off+k*3+2,D⟩=Z (H x.Start)/\fD x.Offset/\fD x.fH:=by
 obtain⟨g,off,x,ec,h1,hB,h2,h3,h4⟩:=nP h hk;obtain⟨rfl,hf⟩:=PV h3;exact⟨g,off,x,h1,hB,h2,h4 0 _ rfl,h4 1 _ rfl,h4 2 _ rfl,hf⟩
theorem La:(prog.info? 216).map (fun i=>(i.zero,i.size,i.bytes))=Z (Z (.agg #[J C 0,J C 0,H I]),3,24):=by kernel_rfl
theorem Ij:kA ly:=wQ _ (oG zD (oG zD FR))
theorem IS:gZ prog 105 216 ly 24:=by
 obtain⟨i0,hi,a0,a1,a2⟩:=SJ La;exact⟨underlying105,⟨i0,_,hi,a0,a1,a2,rfl⟩,by decide⟩
theorem At {xs:Q fQ} (h:(kE.sl e).R w B [G A n c] xs){k:Nat}(hk:k<xs.length) :
  ∃ g off x ,A=Z ⟨g,off,D⟩/\g<B/\xs[k]?=Z x/\QL w ⟨g,off+k*5,D⟩=Z (J C x.Start)/\QL w ⟨g,off+k*5+1,D⟩=Z (J C x.End)/\QL w ⟨g,off+k*5+2,D⟩=Z (J C x.Level)/\QL w ⟨g,off+k*5+3,D⟩=Z (J C x.fH)/\QL w ⟨g,off+k*5+4,D⟩=Z (V x.Name)/\fD x.Start/\fD x.End/\fD x.Level/\fD x.fH/\x.Name.size<=9223372036854775807:=by
 obtain⟨g,off,x,ec,h1,hB,h2,h3,h4⟩:=nP h hk;obtain⟨rfl,hf⟩:=NY h3;exact⟨g,off,x,h1,hB,h2,h4 0 _ rfl,h4 1 _ rfl,h4 2 _ rfl,h4 3 _ rfl,h4 4 _ rfl,hf⟩
theorem Jl:(prog.info? 214).map (fun i=>(i.zero,i.size,i.bytes))=Z (Z (.agg #[J C 0,J C 0,J C 0,J C 0,V ⟨#[]⟩]),5,48):=by kernel_rfl
theorem DC:kA kE:=wQ _ (oG zD (oG zD (oG zD (oG zD lq))))
theorem DX:gZ prog 106 214 kE 48:=by
 obtain⟨i0,hi,a0,a1,a2⟩:=SJ Jl;exact⟨underlying106,⟨i0,_,hi,a0,a1,a2,rfl⟩,by decide⟩
def yY (x:gE)(w:U)(r:Ending)(w':U):Prop:=∃ A0 c0 A1 c1 A2 c2 A3 c3,r=.returned (.agg #[J C x.Id,G A0 x.fm.length c0,G A1 x.fY.length c1,G A2 x.Rows.length c2,G A3 x.fI.length c3])/\fU me w w' [J C x.Id,G A0 x.fm.length c0,G A1 x.fY.length c1,G A2 x.Rows.length c2,G A3 x.fI.length c3] x/\ft w w'
theorem EF {x:gE} (h0:fD x.Id)(h1:(ji.sl 137).O w [G A0 x.fm.length c0] x.fm S1)(h2:(kH.sl 205).O w [G A1 x.fY.length c1] x.fY S2)(h3:(ly.sl 216).O w [G A2 x.Rows.length c2] x.Rows S3)(h4:(kE.sl 214).O w [G A3 x.fI.length c3] x.fI S4):me.O w [J C x.Id,G A0 x.fm.length c0,G A1 x.fY.length c1,G A2 x.Rows.length c2,G A3 x.fI.length c3] x (S1++S2++S3++S4):=by
 have h:me.O w [J C x.Id,G A0 x.fm.length c0,G A1 x.fY.length c1,G A2 x.Rows.length c2,G A3 x.fI.length c3] x ([]++(S1++(S2++(S3++S4)))):=⟨[J C x.Id],[G A0 x.fm.length c0,G A1 x.fY.length c1,G A2 x.Rows.length c2,G A3 x.fI.length c3],[],(S1++(S2++(S3++S4))),rfl,rfl,⟨rfl,h0.1,h0.2,rfl⟩,⟨[G A0 x.fm.length c0],[G A1 x.fY.length c1,G A2 x.Rows.length c2,G A3 x.fI.length c3],S1,(S2++(S3++S4)),rfl,rfl,h1,⟨[G A1 x.fY.length c1],[G A2 x.Rows.length c2,G A3 x.fI.length c3],S2,(S3++S4),rfl,rfl,h2,⟨[G A2 x.Rows.length c2],[G A3 x.fI.length c3],S3,S4,rfl,rfl,h3,h4⟩⟩⟩⟩
 simpa using h
theorem JM {x:gE} {u2:U} {m2:Nat} (h0:fD x.Id)(h1:kC (ji.sl 137) u1 m1 W [G A0 x.fm.length c0] x.fm)(h2:kC (kH.sl 205) u2 m2 W [G A1 x.fY.length c1] x.fY)(h3:kC (ly.sl 216) u3 m3 W [G A2 x.Rows.length c2] x.Rows)(h4:kC (kE.sl 214) u4 m4 W [G A3 x.fI.length c3] x.fI)(hw1:w.heap.size<=u1.heap.size)(hw2:w.heap.size<=u2.heap.size)(hw3:w.heap.size<=u3.heap.size)(hw4:w.heap.size<=u4.heap.size)(hd1_2:m1<=u2.heap.size∨m2<=u1.heap.size)(hd1_3:m1<=u3.heap.size∨m3<=u1.heap.size)(hd1_4:m1<=u4.heap.size∨m4<=u1.heap.size)(hd2_3:m2<=u3.heap.size∨m3<=u2.heap.size)(hd2_4:m2<=u4.heap.size∨m4<=u2.heap.size)(hd3_4:m3<=u4.heap.size∨m4<=u3.heap.size):fU me w W [J C x.Id,G A0 x.fm.length c0,G A1 x.fY.length c1,G A2 x.Rows.length c2,G A3 x.fI.length c3] x:=by
 obtain⟨S1,a8,a4,a0⟩:=h1;obtain⟨S2,a9,a5,a1⟩:=h2;obtain⟨S3,aa,a6,a2⟩:=h3;obtain⟨S4,ab,a7,a3⟩:=h4;exact⟨_,EF h0 a8 a9 aa ab,Rs.2 ⟨Rs.2 ⟨Rs.2 ⟨a4,a5,fun a ha b hb=>(by have h1:=a0 a ha;have h2:=a1 b hb;omega)⟩,a6,fun a ha b hb=>(Q7.1 ha).elim (fun ha=>(by have h1:=a0 a ha;have h2:=a2 b hb;omega)) (fun ha=>(by have h1:=a1 a ha;have h2:=a2 b hb;omega))⟩,a7,fun a ha b hb=>(Q7.1 ha).elim (fun ha=>(Q7.1 ha).elim (fun ha=>(by have h1:=a0 a ha;have h2:=a3 b hb;omega)) (fun ha=>(by have h1:=a1 a ha;have h2:=a3 b hb;omega))) (fun ha=>(by have h1:=a2 a ha;have h2:=a3 b hb;omega))⟩,fun b hb=>(Q7.1 hb).elim (fun hb=>(Q7.1 hb).elim (fun hb=>(Q7.1 hb).elim (fun hb=>(by have:=a0 b hb;omega)) (fun hb=>(by have:=a1 b hb;omega))) (fun hb=>(by have:=a2 b hb;omega))) (fun hb=>(by have:=a3 b hb;omega))⟩
theorem H9 {xs:Q gE} (h:(me.sl e).R w B [G A n c] xs){k:Nat}(hk:k<xs.length) :
  ∃ g off x A0 c0 A1 c1 A2 c2 A3 c3,A=Z ⟨g,off,D⟩/\g<B/\xs[k]?=Z x/\QL w ⟨g,off+k*5,D⟩=Z (J C x.Id)/\QL w ⟨g,off+k*5+1,D⟩=Z (G A0 x.fm.length c0)/\QL w ⟨g,off+k*5+2,D⟩=Z (G A1 x.fY.length c1)/\QL w ⟨g,off+k*5+3,D⟩=Z (G A2 x.Rows.length c2)/\QL w ⟨g,off+k*5+4,D⟩=Z (G A3 x.fI.length c3)/\fD x.Id/\(ji.sl 137).R w B [G A0 x.fm.length c0] x.fm/\(kH.sl 205).R w B [G A1 x.fY.length c1] x.fY/\(ly.sl 216).R w B [G A2 x.Rows.length c2] x.Rows/\(kE.sl 214).R w B [G A3 x.fI.length c3] x.fI:=by
 obtain⟨g,off,x,ec,h1,hB,h2,h3,h4⟩:=nP h hk;obtain⟨A0,c0,A1,c1,A2,c2,A3,c3,rfl,hf⟩:=G2 h3;exact⟨g,off,x,A0,c0,A1,c1,A2,c2,A3,c3,h1,hB,h2,h4 0 _ rfl,h4 1 _ rfl,h4 2 _ rfl,h4 3 _ rfl,h4 4 _ rfl,hf⟩
theorem JH:(prog.info? 108).map (fun i=>(i.zero,i.size,i.bytes))=Z (Z (.agg #[J C 0,G D 0 0,G D 0 0,G D 0 0,G D 0 0]),5,104):=by kernel_rfl
theorem PD:gZ prog 29 108 me 104:=by
 obtain⟨i0,hi,a0,a1,a2⟩:=SJ JH;exact⟨underlying29,⟨i0,_,hi,a0,a1,a2,rfl⟩,by decide⟩
theorem K8 {x:iV} (h0:kV.O w [G A0 x.fo.fq.length c0,G A1 x.fo.fu.length c1,G A2 x.fo.Entries.length c2] x.fo S0)(h1:(me.sl 108).O w [G A3 x.fX.length c3] x.fX S1):oS.O w [G A0 x.fo.fq.length c0,G A1 x.fo.fu.length c1,G A2 x.fo.Entries.length c2,G A3 x.fX.length c3] x (S0++S1):=by
 have h:oS.O w [G A0 x.fo.fq.length c0,G A1 x.fo.fu.length c1,G A2 x.fo.Entries.length c2,G A3 x.fX.length c3] x (S0++S1):=⟨[G A0 x.fo.fq.length c0,G A1 x.fo.fu.length c1,G A2 x.fo.Entries.length c2],[G A3 x.fX.length c3],S0,S1,rfl,rfl,h0,h1⟩
 exact h
theorem JL {x:iV} {u0:U} {m0:Nat} (h0:kC kV u0 m0 W [G A0 x.fo.fq.length c0,G A1 x.fo.fu.length c1,G A2 x.fo.Entries.length c2] x.fo)(h1:kC (me.sl 108) u1 m1 W [G A3 x.fX.length c3] x.fX)(hw0:w.heap.size<=u0.heap.size)(hw1:w.heap.size<=u1.heap.size)(hd0_1:m0<=u1.heap.size∨m1<=u0.heap.size):fU oS w W [G A0 x.fo.fq.length c0,G A1 x.fo.fu.length c1,G A2 x.fo.Entries.length c2,G A3 x.fX.length c3] x:=by
 obtain⟨S0,a4,a2,a0⟩:=h0;obtain⟨S1,a5,a3,a1⟩:=h1;exact⟨_,K8 a4 a5,Rs.2 ⟨a2,a3,fun a ha b hb=>(by have h1:=a0 a ha;have h2:=a1 b hb;omega)⟩,fun b hb=>(Q7.1 hb).elim (fun hb=>(by have:=a0 b hb;omega)) (fun hb=>(by have:=a1 b hb;omega))⟩
section
variable {P:Program} {ops:Array Oper} {QI:Exit->Act->U->Prop} {md:Ts} {S:U->Prop} {m:Nat}
def fA (P:Program)(md:Ts)(ops:Array Oper)(QI:Exit->Act->U->Prop)(S:U->Prop)(m:Nat):Nat->Array Bool->Act->U->Prop
 | 0,listed,a,w=>RL md ops listed = []/\QI .normal a w
 | f+1,listed,a,w=>(RL md ops listed = []->QI .normal a w)/\
   ∀ i∈RL md ops listed,wpOp P ops QI i (fun a' w'=>(i≠m->S w')/\fA P md ops QI S m f (listed.setIfInBounds i M) a' w') a w
theorem fA.any:∀{f:Nat}{listed:Array Bool}{a:Act}{w:U},fA P md ops QI S m f listed a w->wpAny P md ops QI f listed a w
 | 0,_,_,_,h=>h
 | _+1,_,_,_,h=>⟨h.1,fun i hi=>wpOp_mono (fun _ _ h'=>h'.2.any) (h.2 i hi)⟩
def qB (md:Ts)(ops:Array Oper)(m:Nat):Nat->Q Nat->Bool
 | i,[]=>i == m
 | i,c::cs=>(match ops[c]? with
   | some o=>o.after.any fun e=>Region.binds md e && e.on == i
   | none=>I) && qB md ops m c cs
theorem MI:∀(cs:Q Nat)(i:Nat),qB md ops m i cs=M->listed.getD i M=I->(∀ c∈cs,listed.getD c M=I)->(∀ c∈cs,c∉RL md ops listed)/\(cs≠[]->m∈cs):=by
 intro cs;induction cs with
 | nil=>intro i _ _ _;simp
 | cons c cs ih=>
  intro i hl hi hc;simp only[qB,Q4] at hl;obtain⟨a2,a1⟩:=hl;have a3:=hc c (by simp);obtain⟨h1,h2⟩:=ih c a1 a3 (fun d hd=>hc d (by simp[hd]))
  have a4:c∉RL md ops listed:=by
   intro hr;obtain⟨_,o,ho,a0⟩:=mem_ready.1 hr;rw[ho] at a2;obtain⟨e,he,hb⟩:=Array.any_eq_true'.1 a2;simp only[Q4,Rt] at hb;have h3:=a0 e he hb.1;rw[hb.2] at h3;rcases Uy i listed.size with h' | h'
   ·simp[h'] at hi h3
    rw[hi] at h3;cases h3
   ·simp[To h'] at hi
  refine⟨fun d hd=>?_,fun _=>?_⟩
  ·rcases Rp.1 hd with rfl | hd
   ·exact a4
   ·exact h1 d hd
  ·cases cs with
   | nil=>
    simp only[qB,Rt] at a1;subst a1;simp
   | cons d ds=>exact Sm _ (h2 (by simp))
theorem fA.first {cs:Q Nat} (hi:ops[i]?=Z oi)(hsel:Tn ops=M)(hlk:qB md ops m i cs=M)(hne:cs≠[])
  (hQ:∀ c a w,QI (.panic c) (a.put oi.dst v) w->QI (.panic c) a w) :
  ∀(f:Nat) (listed:Array Bool) (a:Act) (w:U),(∀ j oj,ops[j]?=Z oj->j≠i->listed.getD j M=I->(∀ e∈oj.after,Region.binds md e=M->e.on≠i)->oi.apart ops oj=M)->
   (∀ c∈cs,listed.getD c M=I)->i∈RL md ops listed->YieldsIf P ops S oi v a->S w->
   fA P md ops QI S m f (listed.setIfInBounds i M) (a.put oi.dst v) w->fA P md ops QI S m (f+1) listed a w:=by
 intro f;induction f with
 | zero=>
  intro listed a w _ _ hr hy hS QG;refine⟨fun h=>absurd hr (by rw[h];simp),fun j hj=>?_⟩;by_cases hji:j=i
  ·subst hji
   exact hy.wpOp hi hS ⟨fun _=>hS,QG⟩
  ·exact absurd (ready_mono hj hji) (by rw[QG.1];simp)
 | succ f ih=>
  intro listed a w a0 a5 hr hy hS QG;have a1:=(mem_ready.1 hr).1;obtain⟨a4,a7⟩:=MI cs i hlk a1 a5;refine⟨fun h=>absurd hr (by rw[h];simp),fun j hj=>?_⟩;by_cases hji:j=i
  ·subst hji
   exact hy.wpOp hi hS ⟨fun _=>hS,QG⟩
  ·have aa:j≠m:=fun h=>a4 j (h ▸ a7 hne) hj
   have a9:j∉cs:=fun h=>a4 j h hj;obtain⟨a6,oj,a3,a2⟩:=mem_ready.1 hj
   have ab:∀ e∈oj.after,Region.binds md e=M->e.on≠i:=by
    intro e he hb a8;have h1:=a2 e he hb;rw[a8] at h1;rcases Uy i listed.size with h' | h'
    ·simp[h'] at a1 h1
     rw[a1] at h1;cases h1
    ·simp[To h'] at a1
   have h2:=wpOp_putIf a3 (a0 j oj a3 hji a6 ab) (fun c b=>Region.noSelect_spec hsel i oi c b hi) (fun c b=>Region.noSelect_spec hsel j oj c b a3) hQ hy (QG.2 j (ready_mono hj hji));refine wpOp_mono (fun a' w' h3=>?_) h2;obtain⟨h4,h5,h6⟩:=h3;refine⟨h5,ih (listed.setIfInBounds j M) a' w' (fun k ok hk hki hun hnk=>?_) (fun c hc=>?_) (ready_mono hr (Ne.symm hji)) h4 (h5 aa) (by rw[Array.setIfInBounds_comm _ _ hji];exact h6)⟩
   ·by_cases hjk:j=k
    ·subst hjk
     exact a0 j ok hk hki a6 hnk
    ·rw[UT M hjk] at hun
     exact a0 k ok hk hki hun hnk
   ·rw[UT M (show j≠c from fun h=>a9 (by rw[h];exact hc))]
    exact a5 c hc
def sZ (listed:Array Bool)(cs:Q Nat):Bool:=cs.all fun c=>!listed.getD c M
theorem fA.take {cs:Q Nat} (hi:ops[i]?=Z oi)(hsel:Tn ops=M)(hf:Ui md ops listed i=M)(hr:(RL md ops listed).contains i=M)
  (hlk:qB md ops m i cs=M) (hne:cs.isEmpty=I) (hun:sZ listed cs=M) (hQ:∀ c a w,QI (.panic c) (a.put oi.dst v) w->QI (.panic c) a w) (hS:S w)
  (hw:Rx oi (Su ops a.tmps)=M) (hy:∀ w,S w->(execOp a.eval oi).run P w=.ok (.value v) w)
  (h:fA P md ops QI S m f (listed.setIfInBounds i M) (a.put oi.dst v) w):fA P md ops QI S m (f+1) listed a w:=
 fA.first hi hsel hlk (by cases cs <;> simp at hne |-) hQ f listed a w (Region.free_spec hi hf) (fun c hc=>by
  simp only[sZ,SG,TU] at hun
  exact hun c hc) (by simpa using hr) (.inl ⟨hw,hy⟩) hS h
theorem fA.one (hr:RL md ops listed = [i])(ho:ops[i]?=Z o)
  (h:∀ K:Act->U->Prop,Hid (∀ a w,S w->(S w->fA P md ops QI S m f (listed.setIfInBounds i M) a w)->K a w)->if Rx o (Su ops a.tmps)=M then Oper.wp P o a w K QI else K (a.put o.dst TE) w):fA P md ops QI S m (f+1) listed a w:=
 ⟨fun h0=>absurd (hr.symm.trans h0) (by simp),fun j hj=>by
  obtain rfl:j=i:=by simpa[hr] using hj
  exact wpOp_step ho (fun K hK=>h K (fh fun a w hS hT=>hK a w ⟨fun _=>hS,hT hS⟩))⟩
theorem fA.last (hr:RL md ops listed = [m])(ho:ops[m]?=Z o)(hd:RL md ops (listed.setIfInBounds m M) = [])
  (h:∀ K:Act->U->Prop,Hid (∀ a w,QI .normal a w->K a w)->if Rx o (Su ops a.tmps)=M then Oper.wp P o a w K QI else K (a.put o.dst TE) w):fA P md ops QI S m (f+1) listed a w:=
 ⟨fun h0=>absurd (hr.symm.trans h0) (by simp),fun j hj=>by
  obtain rfl:j=m:=by simpa[hr] using hj
  refine wpOp_step ho (fun K hK=>h K (fh fun a w hq=>hK a w ⟨fun h=>absurd rfl h,?_⟩));cases f with
  | zero=>exact⟨hd,hq⟩
  | succ f=>exact⟨fun _=>hq,by rw[hd];simp⟩⟩
theorem jT {id:Nat} (S:U->Prop)(m:Nat)(hm:P.follows .mixedOrders=M)(hS:S w.drew)
  (h:S w.drew->fA P .any ops QI S m ops.size (Array.replicate ops.size I) a w.drew):(Code.region id ops M).wp P QI a w:=
 wp_region_any hm (h hS).any
end
theorem fA.tk {QI:Exit->Act->U->Prop} {md:Ts} {S:U->Prop} (i:Nat)(cs:Q Nat){oi:Oper}{v:Value}{f:Nat}{listed:Array Bool}{a a2:Act}{w:U}(hS:S w)(h:fA P md ops QI S m f (listed.setIfInBounds i M) a2 w)
  (hi:ops[i]?=Z oi:=by exact rfl) (hsel:Tn ops=M:=by kernel_rfl) (hf:Ui md ops listed i=M:=by kernel_rfl) (hr:(RL md ops listed).contains i=M:=by kernel_rfl) (hlk:qB md ops m i cs=M:=by kernel_rfl) (hne:cs.isEmpty=I:=by exact rfl) (hun:sZ listed cs=M:=by kernel_rfl)
  (hQ:∀ c a w,QI (.panic c) (a.put oi.dst v) w->QI (.panic c) a w:=by exact fun _ _ _ h=>h) (hw:Rx oi (Su ops a.tmps)=M:=by kernel_rfl) (hy:∀ w,S w->(execOp a.eval oi).run P w=.ok (.value v) w:=by intro w hSw;(try dsimp only at hSw);go_simp;(try with_reducible rfl)) (ha:a.put oi.dst v=a2:=by(try simp only[lay]) <;> exact rfl):fA P md ops QI S m (f+1) listed a w:=
 fA.take hi hsel hf hr hlk hne hun hQ hS hw hy (ha ▸ h)
theorem fA.tq {QI:Exit->Act->U->Prop} {md:Ts} {S:U->Prop} (i:Nat)(cs:Q Nat){oi:Oper}{v:Value}{f:Nat}{listed:Array Bool}{a a2:Act}{w:U}(hS:S w)(h:fA P md ops QI S m f (listed.setIfInBounds i M) a2 w)
  (hi:ops[i]?=Z oi:=by exact rfl) (hsel:Tn ops=M:=by kernel_rfl) (hf:Ui md ops listed i=M:=by kernel_rfl) (hr:(RL md ops listed).contains i=M:=by kernel_rfl) (hlk:qB md ops m i cs=M:=by kernel_rfl) (hne:cs.isEmpty=I:=by exact rfl) (hun:sZ listed cs=M:=by kernel_rfl)
  (hQ:∀ c a w,QI (.panic c) (a.put oi.dst v) w->QI (.panic c) a w:=by exact fun _ _ _ h=>h) (hw:Rx oi (Su ops a.tmps)=M:=by first | rfl | kernel_rfl) (hy:∀ w,S w->(execOp a.eval oi).run P w=.ok (.value v) w:=by intro w hSw;(try dsimp only at hSw);go_simp;(try with_reducible rfl)) (ha:a.put oi.dst v=a2:=by(try simp only[lay]) <;> exact rfl):fA P md ops QI S m (f+1) listed a w:=
 fA.take hi hsel hf hr hlk hne hun hQ hS hw hy (ha ▸ h)
section
variable {P:Program} {ops:Array Oper} {QI:Exit->Act->U->Prop} {md:Ts} {S:U->Prop} {m:Nat}
theorem fA.mF (ho:ops[i]?=Z o)
  (h:∀ K:Act->U->Prop,Hid (∀ a w,S w->fA P md ops QI S m f (listed.setIfInBounds i M) a w->K a w)->if Rx o (Su ops a.tmps)=M then Oper.wp P o a w K QI else K (a.put o.dst TE) w) :
  wpOp P ops QI i (fun a' w'=>(i≠m->S w')/\fA P md ops QI S m f (listed.setIfInBounds i M) a' w') a w:=
 wpOp_step ho (fun K hK=>h K (fh fun a w hS hT=>hK a w ⟨fun _=>hS,hT⟩))
theorem fA.gQ (hr:RL md ops listed = [i])(ho:ops[i]?=Z o)
  (h:∀ K:Act->U->Prop,Hid (∀ a w,S w->fA P md ops QI S m f (listed.setIfInBounds i M) a w->K a w)->if Rx o (Su ops a.tmps)=M then Oper.wp P o a w K QI else K (a.put o.dst TE) w):fA P md ops QI S m (f+1) listed a w:=
 ⟨fun h0=>absurd (hr.symm.trans h0) (by simp),fun j hj=>by
  obtain rfl:j=i:=by simpa[hr] using hj
  exact fA.mF ho h⟩
theorem fA.pd {o2:Oper} (hr:RL md ops listed = [i,j])(ho:ops[i]?=Z o)(ho2:ops[j]?=Z o2)
  (h:∀ K:Act->U->Prop,Hid (∀ a w,S w->fA P md ops QI S m f (listed.setIfInBounds i M) a w->K a w)->if Rx o (Su ops a.tmps)=M then Oper.wp P o a w K QI else K (a.put o.dst TE) w)
  (h2:∀ K:Act->U->Prop,Hid (∀ a w,S w->fA P md ops QI S m f (listed.setIfInBounds j M) a w->K a w)->if Rx o2 (Su ops a.tmps)=M then Oper.wp P o2 a w K QI else K (a.put o2.dst TE) w):fA P md ops QI S m (f+1) listed a w:=
 ⟨fun h0=>absurd (hr.symm.trans h0) (by simp),fun k hk=>by
  have a0:k=i∨k=j:=by simpa[hr] using hk
  rcases a0 with rfl | rfl
  ·exact fA.mF ho h
  ·exact fA.mF ho2 h2⟩
theorem fA.xw {l:Nat} {o2 o3:Oper} (hr:RL md ops listed = [i,j,l])(ho:ops[i]?=Z o)(ho2:ops[j]?=Z o2)(ho3:ops[l]?=Z o3)
  (h:∀ K:Act->U->Prop,Hid (∀ a w,S w->fA P md ops QI S m f (listed.setIfInBounds i M) a w->K a w)->if Rx o (Su ops a.tmps)=M then Oper.wp P o a w K QI else K (a.put o.dst TE) w)
  (h2:∀ K:Act->U->Prop,Hid (∀ a w,S w->fA P md ops QI S m f (listed.setIfInBounds j M) a w->K a w)->if Rx o2 (Su ops a.tmps)=M then Oper.wp P o2 a w K QI else K (a.put o2.dst TE) w)
  (h3:∀ K:Act->U->Prop,Hid (∀ a w,S w->fA P md ops QI S m f (listed.setIfInBounds l M) a w->K a w)->if Rx o3 (Su ops a.tmps)=M then Oper.wp P o3 a w K QI else K (a.put o3.dst TE) w):fA P md ops QI S m (f+1) listed a w:=
 ⟨fun h0=>absurd (hr.symm.trans h0) (by simp),fun k hk=>by
  have a0:k=i∨k=j∨k=l:=by simpa[hr] using hk
  rcases a0 with rfl | rfl | rfl
  ·exact fA.mF ho h
  ·exact fA.mF ho2 h2
  ·exact fA.mF ho3 h3⟩
end
structure J3 {α β:Type}(T:Ty α)(QF:Ty β)(e f:TypeId)(Y W:U)(va vb:Value)(xa:Q α)(xb:Q β)(Sa Sb:Q Nat)(go:Nat)(o:Obj):Prop where
 ha:Has (T.sl e) W [va] xa Sa
 hb:Has (QF.sl f) W [vb] xb Sb
 nJ:∀ b∈Sa,b∉Sb
 la:∀ b∈Sa,Y.heap.size<=b
 lb:∀ b∈Sb,Y.heap.size<=b
 hg:ft Y W
 ho:W.heap[go]?=Z o
 ng:go∉Sa
 rP:go∉Sb
section
variable {α β:Type} {T:Ty α} {QF:Ty β} {e f:TypeId} {Y W W':U} {va vb:Value} {xa:Q α} {xb:Q β} {Sa Sb:Q Nat} {go:Nat} {o:Obj}
theorem J3.fx (h:J3 T QF e f Y W va vb xa xb Sa Sb go o)(hg:ft W W'):J3 T QF e f Y W' va vb xa xb Sa Sb go o:=
 ⟨h.ha.fx hg,h.hb.fx hg,h.nJ,h.la,h.lb,h.hg.trans hg,zj h.ho hg,h.ng,h.rP⟩
theorem J3.start (ho:Y.heap[go]?=Z o):J3 T QF e f Y Y (G D 0 0) (G D 0 0) [] [] [] [] go o:=
 ⟨Has.nil _ _ _,Has.nil _ _ _,by simp,by simp,by simp,ft.refl _,ho,by simp,by simp⟩
theorem J3.kY (h:J3 T QF e f Y W va vb xa xb Sa Sb go o):J3 T QF e f Y (W.alloc (F #[] e)) (G (Z ⟨W.heap.size,0,D⟩) 0 0) vb [] xb [W.heap.size] Sb go o:=by
 have hl:=(blt h.ho)
 refine⟨Has.emp T (QO _ _),h.hb.fx ((ft.refl _).alloc _),fun b hb hm=>?_,fun b hb=>?_,h.lb,h.hg.alloc _,zj h.ho ((ft.refl _).alloc _),?_,h.rP⟩
 ·have:=h.hb.lt b hm;simp at hb;omega
 ·have:=h.hg.size;simp at hb;omega
 ·simp;omega
theorem J3.jF (h:J3 T QF e f Y W va vb xa xb Sa Sb go o):J3 T QF e f Y (W.alloc (F #[] f)) va (G (Z ⟨W.heap.size,0,D⟩) 0 0) xa [] Sa [W.heap.size] go o:=by
 have hl:=(blt h.ho)
 refine⟨h.ha.fx ((ft.refl _).alloc _),Has.emp QF (QO _ _),fun b hb hm=>?_,h.la,fun b hb=>?_,h.hg.alloc _,zj h.ho ((ft.refl _).alloc _),h.ng,?_⟩
 ·have:=h.ha.lt b hb;simp at hm;omega
 ·have:=h.hg.size;simp at hb;omega
 ·simp;omega
theorem J3.kp {cs:Array Value} {t:TypeId} (h:J3 T QF e f Y W va vb xa xb Sa Sb go o):J3 T QF e f Y (W.alloc (F cs t)) va vb xa xb Sa Sb W.heap.size (F cs t (0,0)):=by
 refine⟨h.ha.fx ((ft.refl _).alloc _),h.hb.fx ((ft.refl _).alloc _),h.nJ,h.la,h.lb,h.hg.alloc _,QO _ _,fun hm=>?_,fun hm=>?_⟩
 ·have:=h.ha.lt _ hm;omega
 ·have:=h.hb.lt _ hm;omega
theorem J3.oC {va':Value} {xa':Q α} {Sa':Q Nat} (h:J3 T QF e f Y W va vb xa xb Sa Sb go o)(hon:fw Sa W W')(hH:Has (T.sl e) W' [va'] xa' Sa')(hS:∀ b∈Sa',b∈Sa∨W.heap.size<=b):J3 T QF e f Y W' va' vb xa' xb Sa' Sb go o:=by
 have hl:=(blt h.ho)
 refine⟨hH,h.hb.fJ hon (fun b hb hm=>h.nJ b hm hb),fun b hb hm=>?_,fun b hb=>?_,h.lb,hon.fx h.hg h.la,(hon.block go hl h.ng).trans h.ho,fun hm=>?_,h.rP⟩
 ·rcases hS b hb with h1 | h1
  ·exact h.nJ b h1 hm
  ·have:=h.hb.lt b hm;omega
 ·rcases hS b hb with h1 | h1
  ·exact h.la b h1
  ·have:=h.hg.size;omega
 ·rcases hS go hm with h1 | h1
  ·exact h.ng h1
  ·omega
theorem J3.xh {vb':Value} {xb':Q β} {Sb':Q Nat} (h:J3 T QF e f Y W va vb xa xb Sa Sb go o)(hon:fw Sb W W')(hH:Has (QF.sl f) W' [vb'] xb' Sb')(hS:∀ b∈Sb',b∈Sb∨W.heap.size<=b):J3 T QF e f Y W' va vb' xa xb' Sa Sb' go o:=by
 have hl:=(blt h.ho)
 refine⟨h.ha.fJ hon (fun b hb hm=>h.nJ b hb hm),hH,fun b hb hm=>?_,h.la,fun b hb=>?_,hon.fx h.hg h.lb,(hon.block go hl h.rP).trans h.ho,h.ng,fun hm=>?_⟩
 ·rcases hS b hm with h1 | h1
  ·exact h.nJ b hb h1
  ·have:=h.ha.lt b hb;omega
 ·rcases hS b hb with h1 | h1
  ·exact h.lb b h1
  ·have:=h.hg.size;omega
 ·rcases hS go hm with h1 | h1
  ·exact h.rP h1
  ·omega
theorem J3.cell {p:Ri}{v:Value}(h:J3 T QF e f Y W va vb xa xb Sa Sb go o)(hc:Y.cell? p=Z v):W.cell? p=Z v:=by
 obtain⟨os,d,hw⟩:=h.hg;rw[hw];exact zd hc os d
theorem J3.store {o':Obj} (h:J3 T QF e f Y W va vb xa xb Sa Sb go o)(hon:fw [go] W W')(ho':W'.heap[go]?=Z o')(hgo:Y.heap.size<=go):J3 T QF e f Y W' va vb xa xb Sa Sb go o':=
 ⟨h.ha.fJ hon (fun b hb hm=>h.ng (by simp at hm;exact hm ▸ hb)),h.hb.fJ hon (fun b hb hm=>h.rP (by simp at hm;exact hm ▸ hb)),h.nJ,h.la,h.lb,hon.fx h.hg (fun b hb=>by simp at hb;omega),ho',h.ng,h.rP⟩
end
def wV (last:Int)(r:gJ):Bool:=decide (last<=r.Start) && decide (r.Start<r.End) && decide (r.End<=1000000) && fT r.fE 0 1200 && !(r.Frame && decide (r.fE≠0))
theorem zH {last:Int} {r:gJ}:wV last r=M↔last<=r.Start/\r.Start<r.End/\r.End<=1000000/\fT r.fE 0 1200=M/\(r.Frame=M->r.fE=0):=by
 unfold wV;simp only[Q4,Rg,TU,TT,RW,Classical.not_not];constructor
 ·rintro⟨⟨⟨⟨h1,h2⟩,h3⟩,h4⟩,h5⟩
  refine⟨h1,h2,h3,h4,fun hf=>?_⟩;rcases h5 with h5 | h5
  ·rw[hf] at h5;cases h5
  ·exact h5
 ·rintro⟨h1,h2,h3,h4,h5⟩
  refine⟨⟨⟨⟨h1,h2⟩,h3⟩,h4⟩,?_⟩;cases hf:r.Frame with
  | false=>exact .inl rfl
  | true=>exact .inr (h5 hf)
theorem xV {last:Int} {r:gJ} (h:¬ (last<=r.Start/\r.Start<r.End/\r.End<=1000000/\fT r.fE 0 1200=M/\(r.Frame=M->r.fE=0))):wV last r=I:=by
 cases hq:wV last r with
 | false=>rfl
 | true=>exact absurd (zH.1 hq) h
def qA:Int->Q gJ->Bool
 | _,[]=>M
 | last,r::rs=>wV last r && qA r.End rs
theorem Br {rs:Q gJ} {r:gJ} (h:rs[k]?=Z r)(last:Int):qA last (rs.drop k)=(wV last r && qA r.End (rs.drop (k+1))):=by
 obtain⟨h1,rfl⟩:=QM.1 h;rw[Q6 h1];rfl
def pA (rs:Q gJ)(k:Nat):Int:=match k with
 | 0=>0
 | j+1=>(rs[j]?.map gJ.End).getD 0
def tI (prev:Int)(r:ir):Bool:=fT r.Offset 0 1000000 && fT r.fH 0 59 && decide (prev<r.Offset)
def qC:Int->Q ir->Bool
 | _,[]=>M
 | p,r::rs=>tI p r && qC r.Offset rs
def rowAt:Q ir->Int->Nat->Int->Int
 | [],_,_,f=>f
 | r::rs,off,k,f=>rowAt rs off (k+1) (if r.Offset<=off then (k:Int) else f)
theorem xU {rs:Q ir} {r:ir} (h:rs[k]?=Z r)(p:Int):qC p (rs.drop k)=(tI p r && qC r.Offset (rs.drop (k+1))):=by
 obtain⟨h1,rfl⟩:=QM.1 h;rw[Q6 h1];rfl
end Go.Proofs.YthgbglbaemelhaaGreat
