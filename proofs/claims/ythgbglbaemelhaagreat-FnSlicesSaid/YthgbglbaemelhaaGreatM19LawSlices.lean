/-
  PART.
-/
import Derived.Test.YthgbglbaemelhaaGreatM2LawSlices
import Derived.Test.YthgbglbaemelhaaGreatM3LawSlices
import Derived.Deep.AppendSrc
import Derived.Deep.MidRow
import Derived.Laws.IdiomStrings
set_option linter.unusedVariables false
set_option linter.unusedSimpArgs false
set_option maxRecDepth 100000
set_option maxHeartbeats 8000000
namespace Go.Proofs.YthgbglbaemelhaaGreat
open Value renaming slice->G,int->J,bool->H,string->V
open IntKind renaming i64->C
open Option renaming none->D,some->Z
open Bool renaming false->I,true->M
open Go renaming World->U,Calls->Rh,Addr->Ri
open List renaming length_cons->Rc
open RowKit renaming intOf->Ry,wrap64->Sf
open _root_.Array renaming length_toList->RM
open Tryz
open Go.RowKit
variable {L:Q UInt8}{a:Int}{acc l:Q Int}{f j m q t z:Nat}{s:N}
theorem N9 (k:Nat):∀ n,n<128 ^ (k+1)->(qI n).length<=k+1:=by
 induction k with
 | zero=>intro n h;rw[C8 (by simpa using h)];simp
 | succ k ih=>
  intro n h;by_cases hn:n<128
  ·rw[C8 hn];simp
  ·rw[Hy (by omega),Rc]
   have:=ih (n / 128) (by rw[Nat.pow_succ] at h;omega);omega
theorem pq (n:Int):(jo n).size<=6:=by
 unfold jo;split
 ·rename_i h
  obtain⟨h1,h2⟩:=zu.1 h;have:=N9 5 n.toNat (by omega);show (qI n.toNat).toArray.size<=6;simpa using this
 ·show (#[]:Array UInt8).size<=6
  simp
theorem Nn {a:Nat}:∀(f k n:Nat)(m z:Nat),pC L a f k n=(m,z,M)->k<z/\z<=k+f/\a+z<=L.length/\m<=1099511627775:=by
 intro f;induction f with
 | zero=>intro k n m z h;simp[pC] at h
 | succ f ih=>
  intro k n m z h;cases hx:L[a+k]? with
  | none=>rw[yQ hx] at h;simp at h
  | some b=>
   have a0:=(QM.1 hx).1;rw[Cd hx] at h;split at h
   ·split at h
    ·rename_i he
     simp only[SM,TO] at h;obtain⟨h1,rfl⟩:=h;refine⟨by omega,by omega,by omega,?_⟩;rw[h1] at he;by_cases hm:m<=1099511627775
     ·exact hm
     ·exfalso
      have e0:(jo (m:Int)).data.toList = []:=by
       unfold jo;rw[QZ (by simp[zu];omega)]
      rw[e0] at he;have:((L.drop a).take (k+1)).length=0:=by rw[<-he];rfl
      rw[Sj,SU] at this;omega
    ·simp at h
   ·have:=ih _ _ _ _ h
    omega
theorem qu {n:Nat} (h:iE s a=(n,z,M)):0<=a/\1<=z/\z<=6/\a+z<=s.size/\n<=1099511627775:=by
 unfold iE at h;split at h
 ·rename_i h0
  have h1:=Nn _ _ _ _ _ h;have h2:s.data.toList.length=s.size:=by rw[RM];rfl
  omega
 ·simp at h
theorem AD (n:Nat)(h:n<=4611686018427387903):bits .and C (n:Int) 1=(n:Int) % 2:=bits_mask C 62 (by decide) Af 1 (by decide) _ (by omega) (by omega)
def signed (n:Nat):Int:=if fT (n:Int) 0 1099511627775 then (if n % 2=1 then -((n:Int)+1) / 2 else (n:Int) / 2) else 0
theorem xN (n:Nat) : -1099511627776<=signed n/\signed n<=1099511627776:=by
 unfold signed;split
 ·rename_i h
  have:=zu.1 h;split <;> omega
 ·omega
theorem N5 (n q:Nat)(hn:n<=4398046511104)(h:n+1=2*q):Sf (-((n:Int)+1).tdiv 2) = -((n:Int)+1) / 2:=by
 have:(n:Int)+1=2*(q:Int):=by exact_mod_cast h
 rw[this,Int.mul_tdiv_cancel_left _ (by decide),rS (by omega) (by omega)];omega
def p8 (s:N):N:=jo s.size++s
def jB (s:N)(a:Int):N × Nat × Bool:=
 if (iE s a).2.2 && decide ((iE s a).1<=s.size-a.toNat-(iE s a).2.1) then (s.extract (a.toNat+(iE s a).2.1) (a.toNat+(iE s a).2.1+(iE s a).1),(iE s a).2.1+(iE s a).1,M) else (⟨#[]⟩,0,I)
def H8 (p:N × Nat × Bool)(w:U)(e:Ending)(w':U):Prop:=e=.returned (.tuple #[V p.1,J C p.2.1,H p.2.2])/\ft w w'
theorem C6 {p q:N × Nat × Bool} (h:p=q){w w':U}(hG:ft w w'):H8 p w (.returned (.tuple #[V q.1,J C q.2.1,H q.2.2])) w':=by
 subst h;exact⟨rfl,hG⟩
theorem zpJ (n:Nat)(hn:n<=4398046511104)(w:U):Rh prog 163 #[J C (n:Int)] w fun e w'=>e=.returned (J C (signed n))/\w=w':=by
 cases hb:fT (n:Int) 0 1099511627775
 ·have HS:=fh (show signed n=0 from by simp[signed,hb])
  have HB:=fh hb;clear hb;go_enter func163,ntmps163;go_wp2_with(go_at_call 43;(with_reducible refine(gY _ _ _ _).mono ?_);rw[HB.out];rintro e w1 ⟨rfl,rfl⟩);go_ret;exact⟨nN HS.out.symm,rfl⟩
 ·obtain⟨a0,a1⟩:=zu.1 hb
  have HB:=fh hb;by_cases h2:n % 2=1
  ·have HS:=fh (show signed n = -((n:Int)+1) / 2 from by simp[signed,hb,h2])
   obtain⟨q,hq⟩:∃ q:Nat,n+1=2*q:=⟨(n+1) / 2,by omega⟩
   clear hb;have e1:bits .and C (n:Int) 1=1:=by rw[AD n (by omega)];omega
   go_enter func163,ntmps163;go_wp2_with(go_at_call 43;(with_reducible refine(gY _ _ _ _).mono ?_);rw[HB.out];rintro e w1 ⟨rfl,rfl⟩);go_ret;exact⟨nN (by rw[HS.out];first | rfl | (exact N5 n q hn hq)),rfl⟩
  ·have HS:=fh (show signed n=(n:Int) / 2 from by simp[signed,hb,h2])
   clear hb;have e1:bits .and C (n:Int) 1=0:=by rw[AD n (by omega)];omega
   go_enter func163,ntmps163;go_wp2_with(go_at_call 43;(with_reducible refine(gY _ _ _ _).mono ?_);rw[HB.out];rintro e w1 ⟨rfl,rfl⟩);go_ret;exact⟨nN (by rw[HS.out]),rfl⟩
theorem ziJ (s:N)(w:U)(hs:s.size<=1099511627775):Rh prog 118 #[V s] w fun e w'=>e=.returned (V (p8 s))/\ft w w':=by
 have hz:(jo s.size).size+s.size<=9223372036854775807:=by have:=pq s.size;omega
 go_enter func118,ntmps118;go_wp2_with(go_at_call 117;(with_reducible refine(zfs _ _).mono ?_);rintro e w1 ⟨rfl,os,d,rfl⟩);go_ret;exact⟨rfl,gG⟩
theorem zfD (s:N)(a:Int)(w:U)(hs:s.size<=1099511627776)(ha:fD a):Rh prog 109 #[V s,J C a] w (H8 (jB s a) w):=by
 obtain⟨n,z,ok,hp⟩:∃ n z ok,iE s a=(n,z,ok):=⟨_,_,_,rfl⟩
 have HP:=fh hp;cases ok
 ·have HQ:=fh (show jB s a=(⟨#[]⟩,0,I) from by simp[jB,hp])
  clear hp;go_enter func109,ntmps109;go_wp2_with(go_at_call 108;(with_reducible refine(zdl _ _ _ hs ha).mono ?_);rw[HP.out];rintro e w1 ⟨rfl,os,d,rfl⟩);go_ret3;exact C6 HQ.out gG
 ·obtain⟨h1,h2,h3,h4,h5⟩:=qu hp
  obtain⟨a,rfl⟩:=Rl h1;by_cases hf:n<=s.size-a-z
  ·have HQ:=fh (show jB s a=(s.extract (a+z) (a+z+n),z+n,M) from by simp[jB,hp,hf])
   clear hp;have a0:(n:Int)<=(s.size:Int)-a-z:=by omega
   go_enter func109,ntmps109;go_wp2_with(go_at_call 108;(with_reducible refine(zdl _ _ _ hs ha).mono ?_);rw[HP.out];rintro e w1 ⟨rfl,os,d,rfl⟩);go_ret3;exact C6 (q:=(s.extract (a+z) (a+z+n),z+n,M)) HQ.out gG
  ·have HQ:=fh (show jB s a=(⟨#[]⟩,0,I) from by simp[jB,hp,hf])
   clear hp;have a0:¬ (n:Int)<=(s.size:Int)-a-z:=by omega
   go_enter func109,ntmps109;go_wp2_with(go_at_call 108;(with_reducible refine(zdl _ _ _ hs ha).mono ?_);rw[HP.out];rintro e w1 ⟨rfl,os,d,rfl⟩);go_ret3;exact C6 (q:=(⟨#[]⟩,0,I)) HQ.out gG
theorem KD {α:Type} {xs:Q α} {f:α->Bool} {x:α} (h:xs[j]?=Z x)(hf:f x=I):xs.all f=I:=KT h hf
def vX (n:Int):Bool:=fT n (-549755813888) 549755813887
theorem K4 {n:Int} (h:vX n=M):0<=mb n/\mb n<=1099511627775:=by
 unfold vX at h;obtain⟨h1,h2⟩:=zu.1 h;unfold mb;rw[h,Q5 rfl];split <;> omega
def rA (l:Q Int):Q UInt8:=(l.map fun n=>(jo (mb n)).data.toList).flatten
theorem LI {x:Int} (h:l[j]?=Z x):rA (l.take (j+1))=rA (l.take j)++(jo (mb x)).data.toList:=by
 unfold rA;rw[vO h,TR,List.flatten_append];simp
theorem MM (l:Q Int)(j:Nat):(rA (l.take j)).length<=6*j:=by
 have h:∀ l:Q Int,(rA l).length<=6*l.length:=by
  intro l;induction l with
  | nil=>simp[rA]
  | cons x xs ih=>
   have h1:=pq (mb x);have h2:(jo (mb x)).data.toList.length=(jo (mb x)).size:=by rw[RM];rfl
   have h3:rA (x::xs)=(jo (mb x)).data.toList++rA xs:=rfl;rw[h3,QR,Rc];omega
 have:=h (l.take j);have h2:=List.length_take_le j l;omega
def nW (l:Q Int):N:=if l.all vX then ⟨((jo l.length).data.toList++rA l).toArray⟩ else ⟨#[]⟩
theorem Gs (n:Int):(jo n).data.toList.length<=6:=by rw[RM];exact pq n
theorem Dt (s:N):s.data.toList.length=s.size:=by rw[RM];rfl
theorem ID (s:N):(⟨s.data.toList.toArray⟩:N)=s:=by simp
theorem Ho (l:Q UInt8):(⟨l.toArray⟩:N).size=l.length:=by
 show l.toArray.size=_;simp
theorem zkl {w:U} {A:X Ri} {c:Nat} (hx:(zr.sl 3).R w w.heap.size [G A l.length c] l)(hl:l.length<=1099511627775):Rh prog 119 #[G A l.length c] w fun e w'=>e=.returned (V (nW l))/\ft w w':=by
 obtain⟨_,_,hv,h2,h3⟩:=lu hx;injection hv with hA _ hc
 subst hA hc;go_enter func119,ntmps119;go_wp2_with(first | (go_at_call 117;(with_reducible refine(zfs _ _).mono ?_);rintro e w1 ⟨rfl,a2,d1,rfl⟩) | (go_at_call 90;(with_reducible refine(BY _ _).mono ?_);rintro e w1 ⟨rfl,rfl⟩));go_loopw [3,4] (fun a i wr=>∃(j:Nat) (a0:Q UInt8),j<=l.length/\a=V ⟨a0.toArray⟩/\i=J C j/\a0.length<=6+6*j/\Hid (a0=(jo l.length).data.toList++rA (l.take j))/\Hid ((l.take j).all vX=M)/\Hid (ft w wr)) (fun _ i _=>l.length-(Ry i).toNat)
 case atStart=>exact⟨0,(jo l.length).data.toList,QX _,Hx (ID _).symm,rfl,by have:=Gs l.length;omega,fh (by simp[rA]),fh (by simp),fh gG⟩
 case round=>
  obtain⟨j,a0,hj,rfl,rfl,a3,HT,HO,hG⟩:=hrel;obtain⟨os,d,rfl⟩:=hG.out;clear hG;by_cases hlt:j<l.length
  ·obtain⟨g,aa,x,rfl,a1,a4,a8,a9⟩:=lI hx hlt
   have a5:=RE _ _ a4;simp only at a5;have HX:=fh a1;have a7:=fh hx;clear a1 hx;cases hb:vX x
   ·have HF:=fh (show nW l=⟨#[]⟩ from by unfold nW;rw[KD HX.out hb];rfl)
    have b6:decide (mb x<0)=M:=by rw[DS];unfold vX at hb;rw[hb];rfl
    clear hb;go_wp2_with(first | (go_at_call 117;(with_reducible refine(zfs _ _).mono ?_);rintro e w1 ⟨rfl,a2,d1,rfl⟩) | (go_at_call 90;(with_reducible refine(BY _ _).mono ?_);rintro e w1 ⟨rfl,rfl⟩));go_ret;exact⟨mH HF.out.symm,gG⟩
   ·have HB:=fh hb
    have b6:decide (mb x<0)=I:=by rw[DS];unfold vX at hb;rw[hb];rfl
    have b7:=K4 hb;clear hb;have b8:=pq (mb x);have hz:(⟨a0.toArray⟩:N).size+(jo (mb x)).size<=9223372036854775807:=by rw[Ho];omega
    go_wp2_with(first | (go_at_call 117;(with_reducible refine(zfs _ _).mono ?_);rintro e w1 ⟨rfl,a2,d1,rfl⟩) | (go_at_call 90;(with_reducible refine(BY _ _).mono ?_);rintro e w1 ⟨rfl,rfl⟩));go_roundw;exact⟨j+1,a0++(jo (mb x)).data.toList,by omega,Hx (by rw[<-MS,ID]),by go_num,by{ rw[QR];have:=Gs (mb x);omega },fh (by rw[LI HX.out,HT.out,Rw]),fh (Mb HX.out HO.out HB.out),fh gG⟩;exact gH
  ·have a6:j=l.length:=by omega
   subst a6
   have HF:=fh (show nW l=⟨a0.toArray⟩ from by
    have h:=HO.out;have h2:=HT.out;rw[RX] at h h2
    unfold nW;rw[h,Q5 rfl,h2])
   go_wp2;go_ret;exact⟨mH HF.out.symm,gG⟩
def pG (s:N)(a:Int):Nat->Nat->Q Int->X (Q Int × Nat)
 | 0,z,acc=>Z (acc,z)
 | c+1,z,acc=>if (iE s (a+z)).2.2 then pG s a c (z+(iE s (a+z)).2.1) (acc++[signed (iE s (a+z)).1]) else D
def yq:X (Q Int × Nat)->Q Int × Nat × Bool
 | some (l,n)=>(l,n,M)
 | none=>([],0,I)
def iP (s:N)(a:Int):Q Int × Nat × Bool:=if (iE s a).2.2 then yq (pG s a (iE s a).1 (iE s a).2.1 []) else ([],0,I)
theorem Mn (h:iE s (a+q)=(m,t,I)):pG s a (f+1) q acc=D:=by
 simp[pG,h]
theorem Oa (h:iE s (a+q)=(m,t,M)):pG s a (f+1) q acc=pG s a f (q+t) (acc++[signed m]):=by
 simp[pG,h]
theorem LQ {a:Nat}:∀(f k n:Nat)(m z:Nat),pC L a f k n=(m,z,I)->m=0/\z=0:=by
 intro f;induction f with
 | zero=>intro k n m z h;simp[pC] at h;omega
 | succ f ih=>
  intro k n m z h;cases hx:L[a+k]? with
  | none=>rw[yQ hx] at h;simp at h;omega
  | some b=>
   rw[Cd hx] at h;split at h
   ·split at h
    ·simp at h
    ·simp at h;omega
   ·exact ih _ _ _ _ h
theorem tj (h:iE s a=(m,z,I)):m=0/\z=0:=by
 unfold iE at h;split at h
 ·exact LQ _ _ _ _ _ h
 ·simp at h;omega
def Iv (p:Q Int × Nat × Bool)(w:U)(e:Ending)(w':U):Prop:=∃ A c,e=.returned (.tuple #[G A p.1.length c,J C p.2.1,H p.2.2])/\fU (zr.sl 3) w w' [G A p.1.length c] p.1/\ft w w'
theorem Dd {p q:Q Int × Nat × Bool} (h:p=q){w w':U}{A:X Ri}{c:Nat}(hF:fU (zr.sl 3) w w' [G A q.1.length c] q.1)(hG:ft w w'):Iv p w (.returned (.tuple #[G A q.1.length c,J C q.2.1,H q.2.2])) w':=by
 subst h;exact⟨A,c,rfl,hF,hG⟩
theorem zda (s:N)(a:Int)(w:U)(hs:s.size<=1099511627776)(ha:fD a):Rh prog 110 #[V s,J C a] w (Iv (iP s a) w):=by
 obtain⟨n,z,ok,hp⟩:∃ n z ok,iE s a=(n,z,ok):=⟨_,_,_,rfl⟩
 have HP:=fh hp;cases ok
 ·have HQ:=fh (show iP s a=([],0,I) from by simp[iP,hp])
  obtain⟨rfl,rfl⟩:=tj hp;clear hp;go_enter func110,ntmps110;go_wp2_with(go_at_call 108;(with_reducible refine(zdl _ _ _ hs ha).mono ?_);rw[HP.out];rintro e w1 ⟨rfl,a4,d1,rfl⟩);go_loop [9,11] (fun x y=>x=H I/\y=J C 0) (fun _ _=>0)
  case atStart=>exact⟨rfl,rfl⟩
  case round=>
   obtain⟨rfl,rfl⟩:=hrel;go_wp2;go_ret3;exact Dd HQ.out (Ea (W0:=w) gG gG (by simp)) gG
 ·obtain⟨h1,h2,h3,h4,h5⟩:=qu hp
  obtain⟨a,rfl⟩:=Rl h1;have HS:=fh (show iP s a=yq (pG s a n z []) from by simp[iP,hp]);clear hp;go_enter func110,ntmps110;go_wp2_with(go_at_call 108;(with_reducible refine(zdl _ _ _ hs ha).mono ?_);rw[HP.out];rintro e w1 ⟨rfl,a4,d1,rfl⟩);go_loopw [8,9,10,11] (fun y k x b wr=>∃(j q:Nat) (acc:Q Int) (A:X Ri) (c:Nat) (ok:Bool),k=H ok/\b=J C j/\x=G A acc.length c/\y=J C q/\j<=n/\acc.length<=q+1/\a+q<=s.size/\Hid (ok=I->iP s a=([],0,I))/\Hid (ok=M->acc.length<=q)/\Hid (ok=M->pG s a (n-j) q acc=pG s a n z [])/\Hid (ft w wr)/\Hid (fU (zr.sl 3) w wr [G A acc.length c] acc)) (fun _ _ _ b _=>n-(Ry b).toNat)
  case atStart=>exact⟨0,z,[],_,0,M,rfl,rfl,rfl,rfl,by omega,by simp,by omega,fh (fun h=>by cases h),fh (fun _=>by simp),fh (fun _=>rfl),fh gG,fh (xK gG (by simp))⟩
  case round=>
   obtain⟨j,q,acc,A,c,ok,rfl,rfl,rfl,rfl,hj,hq,a9,a1,HL,a2,hG,hF⟩:=hrel;obtain⟨os,d,rfl⟩:=hG.out;clear hG;cases ok
   ·have HQ:=fh (a1.out rfl)
    clear a1 a2 HL;by_cases hlt:j<n
    all_goals
     go_wp2
     go_ret3
     exact Dd HQ.out (Ea (W0:=w) gG gG (by simp)) gG
   ·have HT:=fh (a2.out rfl)
    have aa:=HL.out rfl;clear a1 a2 HL;by_cases hlt:j<n
    ·obtain⟨f,hf⟩:∃ f,n-j=f+1:=⟨n-j-1,by omega⟩
     have a5:=fh hf;have a6:=fh (show n-(j+1)=f by omega);clear hf;obtain⟨m,t,ok,hm⟩:∃ m t ok,iE s ((a:Int)+q)=(m,t,ok):=⟨_,_,_,rfl⟩
     have HM:=fh hm;have a0:fD ((a:Int)+q):=⟨by omega,by omega⟩
     cases ok
     ·have HQ:=fh (show iP s a=([],0,I) from by rw[HS.out,<-HT.out,a5.out,Mn hm];rfl)
      have ab:m<=0:=by have:=(tj hm).1;omega
      have ac:t<=0:=by have:=(tj hm).2;omega
      clear hm;go_wp2_with(first | (at_builtin;go_must (refine xy (W0:=w) (L:=acc.length+1) rfl (.tmp 44) (.tmp 47) mg zD (hF.out.fx gG).nH gG (W1:=w) (B:=0) (ec:=[J C (signed m)]) (y:=signed m) ⟨rfl,by have:=xN m;omega,by have:=xN m;omega⟩ rfl rfl rfl (by intro j u hu;simpa[go_sem] using hu) rfl (by omega) (by omega) ?_);intro A2 c2 a8 d2 a3) | (go_at_call 108;(with_reducible refine(zdl _ _ _ hs a0).mono ?_);rw[HM.out];rintro e w1 ⟨rfl,a4,d1,rfl⟩) | (go_at_call 163;(with_reducible refine(zpJ m (by omega) _).mono ?_);rintro e w1 ⟨rfl,rfl⟩));go_roundw;exact⟨j+1,q+t,acc++[signed m],A2,c2,I,rfl,by go_num,by simp,by go_num,by omega,by simp;omega,by omega,fh (fun _=>HQ.out),fh (fun h=>by cases h),fh (fun h=>by cases h),fh gG,fh (by simpa using a3)⟩;exact gH
     ·obtain⟨g1,g2,g3,g4,g5⟩:=qu hm
      have HN:=fh (Oa (f:=f) (acc:=acc) hm);clear hm;go_wp2_with(first | (at_builtin;go_must (refine xy (W0:=w) (L:=acc.length+1) rfl (.tmp 44) (.tmp 47) mg zD (hF.out.fx gG).nH gG (W1:=w) (B:=0) (ec:=[J C (signed m)]) (y:=signed m) ⟨rfl,by have:=xN m;omega,by have:=xN m;omega⟩ rfl rfl rfl (by intro j u hu;simpa[go_sem] using hu) rfl (by omega) (by omega) ?_);intro A2 c2 a8 d2 a3) | (go_at_call 108;(with_reducible refine(zdl _ _ _ hs a0).mono ?_);rw[HM.out];rintro e w1 ⟨rfl,a4,d1,rfl⟩) | (go_at_call 163;(with_reducible refine(zpJ m (by omega) _).mono ?_);rintro e w1 ⟨rfl,rfl⟩));go_roundw;exact⟨j+1,q+t,acc++[signed m],A2,c2,M,rfl,by go_num,by simp,by go_num,by omega,by simp;omega,by omega,fh (fun h=>by cases h),fh (fun _=>by simp;omega),fh (fun _=>by rw[<-HT.out,a5.out,a6.out,HN.out]),fh gG,fh (by simpa using a3)⟩;exact gH
    ·have a7:j=n:=by omega
     subst a7;have HQ:=fh (show iP s a=(acc,q,M) from by rw[HS.out,<-HT.out,RP];rfl);go_wp2;go_ret3;exact Dd (q:=(acc,q,M)) HQ.out hF.out gG
end Go.Proofs.YthgbglbaemelhaaGreat
