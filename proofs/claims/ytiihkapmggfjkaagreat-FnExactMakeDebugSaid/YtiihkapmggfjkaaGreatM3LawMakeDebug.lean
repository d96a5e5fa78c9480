/-
  PART.
-/
import Derived.Test.YtiihkapmggfjkaaGreatM2LawMakeDebug
import Derived.Deep.RegionHeld3
set_option linter.unusedVariables false
set_option linter.unusedSimpArgs false
set_option maxRecDepth 100000
set_option maxHeartbeats 8000000
namespace Go.Proofs.YtiihkapmggfjkaaGreat
open Value renaming slice->J,int->F,bool->X,string->G
open IntKind renaming i64->I
open Option renaming none->V,some->H
open Obj renaming cells->C
open Bool renaming false->U,true->M
open Go renaming World->N,Value->LA,Calls->LR,Addr->Mh
open _root_.Int renaming toNat_natCast->Lw
open List renaming length_cons->LJ,length_nil->Mk
open RowKit renaming intOf->Ml
open _root_.Array renaming length_toList->Mx
open _root_.ByteArray renaming size->M8
open Ending renaming returned->NB
open UInt8 renaming ofNat->NJ
open Tryz
open Go.RowKit
variable {B:Nat}{a b:D}{v:LA}{w:N}{xs:Q D}
theorem lG {g:Prop} (f:g:=by
  subst this
  have h1:=HT.out
  rw[HL.out] at h1
  simp only[MJ] at h1
  rw[<-HL.out] at h1
  simp at h1
  simp[h1]):g:=f
theorem lH {g:Prop} (f:g:=by
  go_wp2
  go_ret
  exact⟨zy (by symm;simp only[Me];rintro rfl;exact hl rfl),fF.refl _⟩):g:=f
theorem Gb {ys:Q D} {B':Nat} {u:LA} (hx:(iH.sl 9).R w B [v] xs)(hy:(iH.sl 9).R w B' [u] ys) :
  LR prog 122 #[v,u] w fun e w'=>e=.returned (X (decide (xs=ys)))/\fF w w':=by
 obtain⟨A,c,rfl,h1,h2⟩:=jV hx;obtain⟨A',c',rfl,k1,k2⟩:=jV hy;by_cases hl:xs.length=ys.length
 ·have a4:((xs.length:Int) != (ys.length:Int))=U:=by simp[hl]
  have HL:=fE hl;clear hl;go_enter func122,ntmps122;go_wp2_with(fail);go_loopw [5] (fun i wr=>∃ k n:Nat,k<=xs.length/\i=F I k/\wr=w.drewN n/\xs.take k=ys.take k) (fun i _=>xs.length-(Ml i).toNat)
  case atStart=>exact⟨0,0,Lv _,rfl,rfl,by simp⟩
  case round=>
   obtain⟨k,n,hk,rfl,rfl,a1⟩:=hrel;have HT:=fE a1;clear a1;by_cases hlt:k<xs.length
   ·have a0:k<ys.length:=by rw[<-HL.out];exact hlt
    obtain⟨g,aa,x,rfl,a2,a8,a6⟩:=qu hx hlt;obtain⟨g',a5,y,rfl,a3,a9,a7⟩:=qu hy a0;have HX:=fE a2;have HY:=fE a3;clear a2 a3 hx hy;by_cases hxy:x=y
    ·subst hxy
     go_wp2_with(fail);go_quiet (fail);go_wp2;go_roundw;exact⟨k+1,_,by omega,by go_num,rfl,by rw[lJ HX.out,lJ HY.out,HT.out]⟩;exact gL
    ·have hb:(!(x.toList == y.toList))=M:=Kv hxy
     go_wp2_with(fail);go_quiet (fail);go_wp2;go_ret;refine⟨zy ?_,?_⟩
     ·symm
      simp only[Me];rintro rfl;have:=HX.out.symm.trans HY.out;simp_all
     ·exact xM _ _
   ·go_wp2
    go_ret;refine⟨zy ?_,?_⟩
    ·have:k=xs.length:=by omega
     exact lG
    ·exact xM _ _
 ·have a4:((xs.length:Int) != (ys.length:Int))=M:=by simp;omega
  go_enter func122,ntmps122;exact lH
theorem Gm (W:N)(x:Int):(convert 42 9 (J (H ⟨W.heap.size,0,V⟩) 1 1)).run prog (W.alloc (C #[F .u8 x] 5))=.ok (G ⟨#[NJ x.toNat]⟩) (W.alloc (C #[F .u8 x] 5)):=by
 have h:=run_convert_bytes_arg (P:=prog) (W.alloc (C #[F .u8 x] 5)) 42 5 underlying42 underlying5 W.heap.size 0 1 1 [x] rfl (by
  intro i hi;have:i=0:=by omega
  subst this;rw[World.cell?_alloc_at _ _ _ _ rfl]
  rfl) 9 underlying9
 rw[h];rfl
def oJ:Nat->Nat->Q UInt8->Q UInt8
 | 0,_,acc=>acc
 | f+1,n,acc=>if n=0 then acc else oJ f (n / 10) ((48+NJ (n % 10))::acc)
theorem I4 (f:Nat)(acc:Q UInt8):oJ f 0 acc=acc:=by cases f <;> simp[oJ]
theorem Jr {f m:Nat} (acc:Q UInt8)(h:0<m)(hf:m<=f):oJ f m acc=oJ (f-1) (m / 10) ((48+NJ (m % 10))::acc):=by
 obtain⟨f',rfl⟩:∃ f',f=f'+1:=⟨f-1,by omega⟩
 rw[oJ,Lt (by omega)];rfl
theorem CR (a b:Q UInt8):(⟨a.toArray⟩:D)++⟨b.toArray⟩=⟨(a++b).toArray⟩:=by
 apply tg.1;rw[Ok,Ok];simp
def lr (k:Int):D:=⟨(109::oJ k.toNat k.toNat []).toArray⟩
theorem ua (h:a=b):NB (G a)=.returned (G b):=by rw[h]
theorem J8 (h:a=b):G a=G b:=by rw[h]
theorem pt (k:Int)(h0:0<k)(h1:k<=1099511627776)(w:N):LR prog 55 #[F I k] w fun e w'=>e=.returned (G (lr k))/\fF w w':=by
 obtain⟨n,rfl⟩:=M1 (Int.le_of_lt h0);have kc:=Gm;go_enter func55,ntmps55;go_wp2_with(fail);go_loopw [0,3] (fun a b wr=>∃(m f:Nat) (acc:Q UInt8),m+acc.length<=n/\m<=f/\a=F I m/\b=G ⟨acc.toArray⟩/\oJ f m acc=oJ n n []/\fF w wr) (fun a _ _=>(Ml a).toNat)
 case atStart=>exact⟨n,n,[],by simp,Lz _,rfl,rfl,rfl,fF.refl _⟩
 case round=>
  obtain⟨m,f,acc,hm,hf,rfl,rfl,ht,hg⟩:=hrel;have HT:=fE ht;clear ht;by_cases h:0<m
  ·go_wp2
   go_roundw;exact⟨m / 10,f-1,(48+NJ (m % 10))::acc,by simp;omega,by omega,by go_num,J8 (CR [_] acc),by rw[<-HT.out,Jr acc h hf],hg.alloc _⟩;exact gL
  ·have h':m=0:=by omega
   subst h';go_wp2;go_ret;exact⟨ua (by rw[lr,Lw,<-HT.out,I4];exact CR [_] acc),hg⟩
/-! ### marks -/
def AE (xs:Q D)(k:Int):Q D:=nq (fun _ k=>lr k) (fun _=>1) xs k
theorem xu (xs:Q D)(k:Int):(AE xs k).length=xs.length:=ns _ _
theorem Je {α:Type} (xs:Q α):lk (fun _=>1) xs=xs.length:=by
 induction xs with
 | nil=>rfl
 | cons x xs ih=>rw[uI,ih,LJ];omega
theorem FH {α:Type} {xs:Q α} {i:Nat} (h:i<=xs.length):lk (fun _=>1) (xs.take i)=i:=by
 rw[Je,MG];omega
theorem wT {α:Type} (f:α->Nat)(xs:Q α)(j:Nat):((xs.take j).map f).sum<=(xs.map f).sum:=Bx (cnt:=f) xs j
theorem wP {α:Type} (f:α->Nat){xs:Q α}{j:Nat}{x:α}(h:xs[j]?=H x):((xs.take (j+1)).map f).sum=((xs.take j).map f).sum+f x:=yA (cnt:=f) h
theorem AP {α:Type} (f:α->Nat){xs:Q α}{j:Nat}(h:j=xs.length):((xs.take j).map f).sum=(xs.map f).sum:=by rw[h,MJ]
def kp (left:Int)(n:Nat):Int:=if (n:Int)<=left then left-n else -1
def jz {α:Type}(f:α->Nat)(xs:Q α):Nat:=xs.length+(xs.map f).sum
theorem tx {α:Type} (f:α->Nat)(xs:Q α):xs.length<=jz f xs:=Oz _ _
theorem Ab {α:Type} (f:α->Nat){xs:Q α}{j:Nat}{x:α}(h:xs[j]?=H x):f x<=jz f xs:=by
 have h1:=wP f h;have h2:=wT f xs (j+1);unfold jz;omega
theorem Hd {α:Type} (La:Nat)(xs:Q α):lk (fun _=>La) xs=xs.length*La:=by
 induction xs with
 | nil=>simp[lk]
 | cons x xs ih=>rw[uI,ih,LJ,OA,N0,OM]
theorem p9 {α:Type} (La:Nat){xs:Q α}{i:Nat}(h:i<=xs.length):lk (fun _=>La) (xs.take i)=i*La:=by
 rw[Hd,MG,N7 h]
theorem uD (k:Int)(h0:0<k)(h1:k<=1099511627776):(lr k).size<=9223372036854775807:=by
 have a0:∀(f m:Nat) (acc:Q UInt8),(oJ f m acc).length<=m+acc.length:=by
  intro f;induction f with
  | zero=>intro m acc;simp[oJ]
  | succ f ih=>
   intro m acc;unfold oJ;split
   ·omega
   ·have:=ih (m / 10) ((48+NJ (m % 10))::acc)
    simp only[LJ] at this;omega
 have:=a0 k.toNat k.toNat [];simp only[Mk,Nat.add_zero] at this;show (109::oJ k.toNat k.toNat []).toArray.size<=_;simp only[List.size_toArray,LJ];omega
theorem Fs {A:K Mh} {n c:Nat} {k:Int} {S:Q Nat} (hO:(iH.sl 9).O w [J A n c] xs S)(hS:S.Nodup)(h0:0<k)(h1:k+xs.length<=1099511627776) :
  LR prog 56 #[J A n c,F I k] w fun e w'=>e=.returned (F I (k+xs.length))/\(iH.sl 9).O w' [J A n c] (AE xs k) S/\fJ S w w':=by
 obtain⟨_,_,hx,h2,h3⟩:=jV (Ty.read _ hO);injection hx with hA hn hc
 subst hA hn hc;clear h3;go_enter func56,ntmps56;go_wp2_with(fail);go_loopw [1,5] (fun a i wr=>∃(j:Nat),j<=xs.length/\a=F I (k+j)/\i=F I j/\(iH.sl 9).O wr [J A xs.length c] (m8 (fun(_:D) k=>lr k) (fun _=>1) xs k j) S/\fJ S w wr) (fun _ i _=>xs.length-(Ml i).toNat)
 case atStart=>exact⟨0,Lv _,by simp,rfl,by rw[tr];exact hO,fJ.refl _ _⟩
 case round=>
  obtain⟨j,hj,rfl,rfl,ho,hs⟩:=hrel;by_cases hlt:j<xs.length
  ·have a2:xs[j]?=H xs[j]:=Lo hlt
   obtain⟨g,ec,Sc,rfl,a8,aa,a9,a6,ab,a3,a4,a0,a1,_⟩:=mN ho hS (tv a2 k);generalize hxe:xs[j]=x at a2 a3;clear hxe;obtain⟨rfl,b1,rfl⟩:=a3;have a5:=a0 0 _ rfl;simp only[iH,Og,Nat.add_zero] at a5;have a7:=a4 j;have HX:=fE a2;have HC:=fE a0;have HS:=fE a1;clear a0 a1 a4 a2 ho hO;go_wp2_with(first | (go_at_call 55;refine(pt _ (by omega) (by omega) _).mono ?_;rintro e w1 ⟨rfl,os,d,rfl⟩));go_roundw
   case rel=>
    have h:=HS.out 0 (G (lr (k+j))) (lr (k+j)) (by simp[iH]) rfl ⟨rfl,uD _ (by omega) (by omega),rfl⟩;simp only[iH,Og,Nat.add_zero] at h;have e:=tw (mk:=fun(_:D) k=>lr k) (cnt:=fun _=>1) HX.out k;rw[FH (by omega)] at e;rw[e] at h;exact⟨j+1,by omega,by go_num,by go_num,Ty.jl _ h.1 (fF.of _ _ _),(hs.trans h.2).trans ((fF.of _ _ _).only _)⟩
   case measure=>exact gL
  ·go_wp2
   have:j=xs.length:=by omega
   subst this;rw[tu] at ho;go_ret;exact⟨rfl,ho,hs⟩
/-! ### sizes -/
theorem yj {left:Int} (hx:(iH.sl 9).R w B [v] xs)(h0:0<=left)(h1:left<=1099511627776) :
  LR prog 89 #[v,F I left] w fun e w'=>e=.returned (F I (kp left (jz M8 xs)))/\fF w w':=by
 obtain⟨A,c,rfl,h2,h3⟩:=jV hx;by_cases h:(xs.length:Int)<=left
 ·go_enter func89,ntmps89
  go_wp2_with(fail);go_loop [1,5] (fun a i=>∃(j s:Nat),j<=xs.length/\Hid (s=((xs.take j).map M8).sum)/\(xs.length:Int)+s<=left/\a=F I (left-xs.length-s)/\i=F I j) (fun _ i=>xs.length-(Ml i).toNat)
  case atStart=>exact⟨0,0,Lv _,rfl,by omega,by simp,rfl⟩
  case round=>
   obtain⟨j,s,hj,hs,a2,rfl,rfl⟩:=hrel;by_cases hlt:j<xs.length
   ·obtain⟨g,a3,x,rfl,a0,a1,bx⟩:=qu hx hlt
    have HX:=fE (wP M8 a0);have HM:=fE (wT M8 xs (j+1));clear a0 hx;by_cases hsz:(xs.length:Int)+s+x.size<=left
    ·go_wp2
     go_round;exact⟨j+1,s+x.size,by omega,(by rw[hs.out];exact HX.out.symm),by omega,by go_num,by go_num⟩;exact gL
    ·have HR:=fE (show kp left (jz M8 xs) = -1 from Lt (by have h1:=HX.out;have h2:=HM.out;have h3:=hs.out;unfold jz;omega))
     go_wp2;go_ret;exact⟨kk HR.out.symm,fF.refl _⟩
   ·go_wp2
    go_ret
    exact⟨kk (by
     have h3:=hs.out;rw[AP M8 (show j=xs.length by omega)] at h3;unfold kp jz;rw[Lu (by omega)]
     omega),fF.refl _⟩
 ·have HR:=fE (show kp left (jz M8 xs) = -1 from Lt (by unfold jz;omega))
  go_enter func89,ntmps89;go_wp2;go_ret;exact⟨kk HR.out.symm,fF.refl _⟩
theorem B6:(prog.info? 3).map (fun i=>(i.zero,i.size,i.bytes))=H (H (F I 0),1,8):=by kernel_rfl
theorem E8:(prog.info? 9).map (fun i=>(i.zero,i.size,i.bytes))=H (H (G ⟨#[]⟩),1,16):=by kernel_rfl
theorem GO (hx:(iH.sl 9).R w B [v] xs)(hn:xs.length<=1099511627776) :
  LR prog 103 #[v] w (wR iH 9 xs w):=by
 obtain⟨A,c,rfl,h2,h3⟩:=jV hx;obtain⟨i0,hi,a7,a8,a9⟩:=Nf E8;have a4:=uy (P:=prog) 71 9 i0 _ underlying71 hi a7 I I xs.length xs.length (Lz _) (by rw[a9];omega) (by omega);rw[a8,Og] at a4;clear a7 a8 a9 hi;go_enter func103,ntmps103;go_wp2_with(fail);go_loopw [4] (fun i wr=>∃(j:Nat) (a1:Array LA),j<=xs.length/\i=F I j/\Hid (wr=w.alloc (C a1 9))/\Hid (a1.size=xs.length/\Rows iH w (a1.toList.take j) (xs.take j) [])) (fun i _=>xs.length-(Ml i).toNat)
 case atStart=>exact⟨0,_,Lv _,rfl,rfl,xy _ _,by simp[Rows]⟩
 case round=>
  obtain⟨j,a1,hj,rfl,hw,a0⟩:=hrel;have ae:=hw.out;subst ae;clear hw a4;by_cases hlt:j<xs.length
  ·obtain⟨g,ag,x,rfl,a6,ab,aa⟩:=qu hx hlt
   have ac:=MM _ _ ab;simp only at ac;have a5:j<a1.size:=by have:=a0.out.1;omega
   have a3:a1[j]?=H a1[j]:=MW a5;generalize a1[j]=old at a3;have HX:=fE a6;clear a6 hx;go_wp2;go_roundw
   case rel=>
    refine⟨j+1,_,by omega,by go_num,rfl,by simp[a0.out.1],?_⟩;rw[lJ HX.out,Oh,lJ (x:=G x) (by rw[MP];rw[Mx];exact a5),List.take_set_of_le (Lz _)];exact Rows.snoc a0.out.2 ⟨rfl,aa,rfl⟩
   case measure=>exact gL
  ·have ad:j=xs.length:=by omega
   subst ad;go_wp2;go_ret;obtain⟨af,a2⟩:=a0.out;rw[MJ,MA (by rw[Mx];omega)] at a2;exact⟨_,_,rfl,⟨_,qq (Lp w _) (a2.fU (fun k hk=>by simp at hk)) (by omega),by simp,by simp⟩,(fF.refl _).alloc _⟩
end Go.Proofs.YtiihkapmggfjkaaGreat
