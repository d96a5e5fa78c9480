/-
  PART.
-/
import Derived.Test.YtiihkapmggfjkaaGreatM9LawMakeDebug
import Derived.Test.YtiihkapmggfjkaaGreatM16LawMakeDebug
set_option linter.unusedVariables false
set_option linter.unusedSimpArgs false
set_option maxRecDepth 100000
set_option maxHeartbeats 8000000
namespace Go.Proofs.YtiihkapmggfjkaaGreat
open Value renaming slice->J,int->F,bool->X,string->G
open IntKind renaming i64->I,wrap->Ll
open Option renaming some->H
open Obj renaming cells->C
open Bool renaming false->U,true->M
open Go renaming World->N,results->Ly,Calls->LR,Addr->Mh
open _root_.Int renaming toNat_natCast->Lw
open List renaming length_cons->LJ,length_nil->Mk
open RowKit renaming intOf->Ml
open Tryz
open Go.RowKit
variable {A:K Mh}{a:Int}{c:Nat}{rs xs:Q gu}{t:gu}{w:N}
theorem wK (x:D):x.toList.isEmpty=decide (x=emp):=by
 have h:=mw x emp
 have he:emp.toList = []:=by
  unfold ByteArray.toList;rw[ByteArray.toList.loop];rfl
 rw[he] at h;rw[<-h];cases x.toList <;> rfl
theorem I5 (h:gW t.Kind 0 7=U):kq t=U:=by
 cases hq:kq t with
 | false=>rfl
 | true=>
  unfold kq at hq
  have:gW t.Kind 0 7=M:=by
   rw[zX];split at hq
   ·omega
   ·split at hq
    ·omega
    ·split at hq
     ·omega
     ·rw[LC,zX] at hq
      omega
  rw[h] at this;cases this
theorem Ci (h:a<0):jT xs a = -1:=by unfold jT;rw[Lu h]
theorem xK (xs:Q gu)(k:Nat):jT xs k=l5 (xs.drop k) 1 k:=by unfold jT;rw[Lt (by omega),Lw]
theorem FU (h:(xs.length:Int)<=a):jT xs a = -1:=by
 obtain⟨k,rfl⟩:∃ k:Nat,a=(k:Int):=⟨a.toNat,by omega⟩
 rw[xK,MU (by omega)];rfl
theorem DL {k:Nat} {x:gu} (h:xs[k]?=H x)(m:Nat):l5 (xs.drop k) (m+1) k=if kq x=M then l5 (xs.drop (k+1)) (m+(iL x).toNat) (k+1) else -1:=by
 obtain⟨h1,rfl⟩:=Lh.1 h;rw[LI h1];rfl
theorem zjf (hs:t.Name.size<=9223372036854775807):LR prog 244 #[.agg #[F I t.Kind,F I t.gN,G t.Name]] w fun e w'=>e=.returned (X (kq t))/\fF w w':=by
 go_enter func244,ntmps244;go_wp2_with(first | (go_at_call 43;(with_reducible refine(jr _ _ _ _).mono ?_);rintro e w1 ⟨rfl,rfl⟩) | (go_at_call 185;(with_reducible refine(uY _ _ hs).mono ?_);rintro e w1 ⟨rfl,rfl⟩))
 all_goals
  go_ret
  refine⟨zy ?_,gG⟩
  unfold kq
  simp_all [wK]
theorem zjg (hs:t.Name.size<=9223372036854775807):LR prog 234 #[.agg #[F I t.Kind,F I t.gN,G t.Name]] w fun e w'=>e=.returned (X (kq t))/\fF w w':=by
 rcases LH (gW t.Kind 0 7) with hb | hb
 rotate_left
 ·have HB:=fE hb
  have HF:Hid (kq t=U):=fE (I5 hb);clear hb;go_enter func234,ntmps234;go_wp2_with(go_at_call 33;(with_reducible refine(lj _ _ _ _).mono ?_);rw[HB.out];rintro e w1 ⟨rfl,rfl⟩);go_ret;exact⟨zy HF.out.symm,gG⟩
 have HK:Hid (¬ t.Kind=0->¬ t.Kind=1->¬ t.Kind=7->gW t.Kind 2 6=M):=fE (fun h0 h1 h7=>by rw[zX] at hb |-;omega);go_enter func234,ntmps234;go_wp2_with(first | (go_at_call 33;(with_reducible refine(lj _ _ _ _).mono ?_);rintro e w1 ⟨rfl,rfl⟩) | (go_at_call 172;(with_reducible refine(wg _ _ hs).mono ?_);rintro e w1 ⟨rfl,rfl⟩))
 all_goals
  go_ret
  refine⟨zy ?_,gG⟩
  have a0:=HK.out
  clear HK
  unfold kq
  simp_all [wK]
theorem zo2 (hs:t.Name.size<=9223372036854775807):LR prog 245 #[.agg #[F I t.Kind,F I t.gN,G t.Name]] w fun e w'=>e=.returned (F I (iL t))/\fF w w':=by
 cases hq:kq t with
 | false=>
  have HQ:=fE hq;have HF:Hid (iL t = -1):=fE (by unfold iL;rw[hq];rfl);clear hq;go_enter func245,ntmps245;go_wp2_with(go_at_call 244;(with_reducible refine(zjf hs).mono ?_);rw[HQ.out];rintro e v1 ⟨rfl,hg⟩);go_ret;exact⟨kk HF.out.symm,fF.trans (b:=_) gF hg⟩
 | true=>
  have HQ:=fE hq;have HF:Hid (iL t=if t.Kind=7 then t.gN else if t.Kind=0∨t.Kind=1 then 0 else 2):=fE (by unfold iL;rw[Lu hq]);clear hq;go_enter func245,ntmps245;have eb:=Lp w (C #[F I t.Kind,F I t.gN,G t.Name] 159);go_wp2_with(go_at_call 244;(with_reducible refine(zjf hs).mono ?_);rw[HQ.out];rintro e v1 ⟨rfl,hg⟩;have eb:=zj eb (fF.trans (b:=_) gF hg);obtain⟨b0,b1,b2,_⟩:=tM eb)
  all_goals
   go_ret
   refine⟨kk ?_,fF.trans (b:=_) gF (fF.trans hg gF)⟩
   rw[HF.out]
   simp_all
theorem zlM (hs:t.Name.size<=9223372036854775807):LR prog 235 #[.agg #[F I t.Kind,F I t.gN,G t.Name]] w fun e w'=>e=.returned (F I (iL t))/\fF w w':=by
 cases hq:kq t with
 | false=>
  have HQ:=fE hq;have HF:Hid (iL t = -1):=fE (by unfold iL;rw[hq];rfl);clear hq;go_enter func235,ntmps235;go_wp2_with(go_at_call 234;(with_reducible refine(zjg hs).mono ?_);rw[HQ.out];rintro e v1 ⟨rfl,hg⟩);go_ret;exact⟨kk HF.out.symm,fF.trans (b:=_) gF hg⟩
 | true=>
  have HQ:=fE hq;have HF:Hid (iL t=if t.Kind=7 then t.gN else if t.Kind=0∨t.Kind=1 then 0 else 2):=fE (by unfold iL;rw[Lu hq]);clear hq;go_enter func235,ntmps235;have eb:=Lp w (C #[F I t.Kind,F I t.gN,G t.Name] 159);go_wp2_with(go_at_call 234;(with_reducible refine(zjg hs).mono ?_);rw[HQ.out];rintro e v1 ⟨rfl,hg⟩;have eb:=zj eb (fF.trans (b:=_) gF hg);obtain⟨b0,b1,b2,_⟩:=tM eb)
  all_goals
   go_ret
   refine⟨kk ?_,fF.trans (b:=_) gF (fF.trans hg gF)⟩
   rw[HF.out]
   simp_all
theorem sw {g:Prop} (f:g:=by
  go_roundw
  exact⟨m+(iL x).toNat,k+1,by go_num,by go_num,fE (hG.out.trans ((fF.trans (b:=_) gF hg).trans ((fF.trans (b:=_) gF hg2).trans gF))),by omega,by omega,HB⟩
  exact gL):g:=f
theorem zhX (hx:(iz.sl 159).R w w.heap.size [J A xs.length c] xs)(ha:fV a)(hl:xs.length<=1099511627776) :
  LR prog 224 #[J A xs.length c,F I a] w fun e w'=>e=.returned (F I (jT xs a))/\fF w w':=by
 by_cases ha1:a<0∨(xs.length:Int)<=a
 ·have HF:Hid (jT xs a = -1):=fE (by
   rcases ha1 with h | h
   ·exact Ci h
   ·exact FU h)
  have HB:Hid (gW a 0 ((xs.length:Int)-1)=U):=fE (by rw[<-Bool.not_eq_true,zX];omega);have a7:Ll I ((xs.length:Int)-1)=(xs.length:Int)-1:=iw;clear ha1;go_enter func224,ntmps224;go_wp2_with(first | (go_at_call 43;(with_reducible refine(jr _ _ _ _).mono ?_);rw[HB.out];rintro e w1 ⟨rfl,rfl⟩));exact Ln (v:=F I (-1)) (by simp[Ly,results224,go_sem]) rfl ⟨by rw[HF.out],gG⟩
 ·have a3:0<=a:=by omega
  have a9:a<(xs.length:Int):=by omega
  have HB:Hid (gW a 0 ((xs.length:Int)-1)=M):=fE (Kc a3 (by omega));have a7:Ll I ((xs.length:Int)-1)=(xs.length:Int)-1:=iw;obtain⟨k0,a4⟩:∃ k0:Nat,a=(k0:Int):=⟨a.toNat,by omega⟩
  subst a4;have a2:Hid (l5 (xs.drop k0) 1 k0=jT xs k0):=fE (xK xs k0).symm;go_enter func224,ntmps224;go_wp2_with(first | (go_at_call 43;(with_reducible refine(jr _ _ _ _).mono ?_);rw[HB.out];rintro e w1 ⟨rfl,rfl⟩));go_loopw [5,1] (fun z q wr=>∃(nd k:Nat),z=F I nd/\q=F I k/\Hid (fF w wr)/\nd+4*(xs.length-k)<=4*xs.length+1/\(k:Int)<=9223372036854775807/\Hid (l5 (xs.drop k) nd k=jT xs k0)) (fun _ q _=>xs.length-(Ml q).toNat)
  case atStart=>exact⟨1,k0,rfl,rfl,fE gG,by omega,ha.2,a2⟩
  case round=>
   obtain⟨nd,k,rfl,rfl,hG,ac,a6,hE⟩:=hrel;by_cases hp:0<nd
   ·have ad:(0:Int)<(nd:Int):=by omega
    obtain⟨m,rfl⟩:∃ m,nd=m+1:=⟨nd-1,by omega⟩
    by_cases hlt:k<xs.length
    ·obtain⟨g,ai,x,hA,aa,a1,x0,x1,x2,bk,bn,bs⟩:=mj hx hlt
     have ab:(k:Int)<(xs.length:Int):=by omega
     have a0:¬ ((xs.length:Int)<=(k:Int)):=by omega
     have a5:(0:Int)<=(k:Int):=by omega
     have x0:=za hG.out x0;have x1:=za hG.out x1;have x2:=za hG.out x2;have HA:=fE (DL a1 m);clear a1;subst hA;cases ht:kq x with
     | false=>
      have HT:=fE ht;have HF:Hid (jT xs k0 = -1):=fE (by rw[<-hE.out,HA.out,ht];rfl);clear ht;go_wp2_with(first | (go_at_call 244;(with_reducible refine(zjf (t:=x) bs).mono ?_);rw[HT.out];rintro e v1 ⟨rfl,hg⟩));exact Ln (v:=F I (-1)) (by simp[Ly,results224,go_sem]) rfl ⟨by rw[HF.out],hG.out.trans (fF.trans (b:=_) gF hg)⟩
     | true=>
      have HT:=fE ht;have a8:=uR ht;have HB:Hid (l5 (xs.drop (k+1)) (m+(iL x).toNat) (k+1)=jT xs k0):=fE (by rw[<-hE.out,HA.out,Lu ht]);clear ht;have ae:Ll I (iL x-1)=iL x-1:=iw;have af:Ll I (((m+1:Nat):Int)+(iL x-1))=((m+(iL x).toNat:Nat):Int):=by rw[show ((m+1:Nat):Int)+(iL x-1)=((m+(iL x).toNat:Nat):Int) from by omega];exact iw
      have ag:Ll I (((m+1:Nat):Int)-1)=((m+1:Nat):Int)-1:=iw;have ah:Ll I (((m+1:Nat):Int)-1+iL x)=((m+(iL x).toNat:Nat):Int):=by rw[show ((m+1:Nat):Int)-1+iL x=((m+(iL x).toNat:Nat):Int) from by omega];exact iw
      go_wp2_with(first | (go_at_call 244;(with_reducible refine(zjf (t:=x) bs).mono ?_);rw[HT.out];rintro e v1 ⟨rfl,hg⟩;have x0:=za (fF.trans (b:=_) gF hg) x0;have x1:=za (fF.trans (b:=_) gF hg) x1;have x2:=za (fF.trans (b:=_) gF hg) x2) | (go_at_call 245;(with_reducible refine(zo2 (t:=x) bs).mono ?_);rintro e v2 ⟨rfl,hg2⟩));exact sw
    ·have a0:((xs.length:Int)<=(k:Int)):=by omega
     have HF:Hid (jT xs k0 = -1):=fE (by rw[<-hE.out,MU (by omega)];rfl);go_wp2_with(fail);exact Ln (v:=F I (-1)) (by simp[Ly,results224,go_sem]) rfl ⟨by rw[HF.out],hG.out.trans gG⟩
   ·obtain rfl:nd=0:=by omega
    have HF:Hid (jT xs k0=k):=fE (by rw[<-hE.out];cases xs.drop k <;> rfl);go_wp2_with(fail);exact Ln (v:=F I (k:Int)) (by simp[Ly,results224,go_sem]) rfl ⟨by rw[HF.out],hG.out.trans gG⟩
theorem zhY (hx:(iz.sl 159).R w w.heap.size [J A xs.length c] xs)(ha:fV a)(hl:xs.length<=1099511627776) :
  LR prog 218 #[J A xs.length c,F I a] w fun e w'=>e=.returned (F I (jT xs a))/\fF w w':=by
 by_cases ha0:a<0
 ·have HF:Hid (jT xs a = -1):=fE (Ci ha0)
  go_enter func218,ntmps218;go_wp2_with(fail);exact Ln (v:=F I (-1)) (by simp[Ly,results218,go_sem]) rfl ⟨by rw[HF.out],gG⟩
 ·have a6:0<=a:=by omega
  obtain⟨k0,a3⟩:∃ k0:Nat,a=(k0:Int):=⟨a.toNat,by omega⟩
  subst a3;have a2:Hid (l5 (xs.drop k0) 1 k0=jT xs k0):=fE (xK xs k0).symm;go_enter func218,ntmps218;go_wp2_with(fail);go_loopw [5,1] (fun z q wr=>∃(nd k:Nat),z=F I nd/\q=F I k/\Hid (fF w wr)/\nd+4*(xs.length-k)<=4*xs.length+1/\(k:Int)<=9223372036854775807/\Hid (l5 (xs.drop k) nd k=jT xs k0)) (fun _ q _=>xs.length-(Ml q).toNat)
  case atStart=>exact⟨1,k0,rfl,rfl,fE gG,by omega,ha.2,a2⟩
  case round=>
   obtain⟨nd,k,rfl,rfl,hG,aa,a5,hE⟩:=hrel;by_cases hp:0<nd
   ·have ab:(0:Int)<(nd:Int):=by omega
    obtain⟨m,rfl⟩:∃ m,nd=m+1:=⟨nd-1,by omega⟩
    by_cases hlt:k<xs.length
    ·obtain⟨g,ag,x,hA,a8,a1,x0,x1,x2,bk,bn,bs⟩:=mj hx hlt
     have a9:(k:Int)<(xs.length:Int):=by omega
     have a0:¬ ((xs.length:Int)<=(k:Int)):=by omega
     have a4:(0:Int)<=(k:Int):=by omega
     have x0:=za hG.out x0;have x1:=za hG.out x1;have x2:=za hG.out x2;have HA:=fE (DL a1 m);clear a1;subst hA;cases ht:kq x with
     | false=>
      have HT:=fE ht;have HF:Hid (jT xs k0 = -1):=fE (by rw[<-hE.out,HA.out,ht];rfl);clear ht;go_wp2_with(first | (go_at_call 234;(with_reducible refine(zjg (t:=x) bs).mono ?_);rw[HT.out];rintro e v1 ⟨rfl,hg⟩));exact Ln (v:=F I (-1)) (by simp[Ly,results218,go_sem]) rfl ⟨by rw[HF.out],hG.out.trans (fF.trans (b:=_) gF hg)⟩
     | true=>
      have HT:=fE ht;have a7:=uR ht;have HB:Hid (l5 (xs.drop (k+1)) (m+(iL x).toNat) (k+1)=jT xs k0):=fE (by rw[<-hE.out,HA.out,Lu ht]);clear ht;have ac:Ll I (iL x-1)=iL x-1:=iw;have ad:Ll I (((m+1:Nat):Int)+(iL x-1))=((m+(iL x).toNat:Nat):Int):=by rw[show ((m+1:Nat):Int)+(iL x-1)=((m+(iL x).toNat:Nat):Int) from by omega];exact iw
      have ae:Ll I (((m+1:Nat):Int)-1)=((m+1:Nat):Int)-1:=iw;have af:Ll I (((m+1:Nat):Int)-1+iL x)=((m+(iL x).toNat:Nat):Int):=by rw[show ((m+1:Nat):Int)-1+iL x=((m+(iL x).toNat:Nat):Int) from by omega];exact iw
      go_wp2_with(first | (go_at_call 234;(with_reducible refine(zjg (t:=x) bs).mono ?_);rw[HT.out];rintro e v1 ⟨rfl,hg⟩;have x0:=za (fF.trans (b:=_) gF hg) x0;have x1:=za (fF.trans (b:=_) gF hg) x1;have x2:=za (fF.trans (b:=_) gF hg) x2) | (go_at_call 235;(with_reducible refine(zlM (t:=x) bs).mono ?_);rintro e v2 ⟨rfl,hg2⟩));exact sw
    ·have a0:((xs.length:Int)<=(k:Int)):=by omega
     have HF:Hid (jT xs k0 = -1):=fE (by rw[<-hE.out,MU (by omega)];rfl);go_wp2_with(fail);exact Ln (v:=F I (-1)) (by simp[Ly,results218,go_sem]) rfl ⟨by rw[HF.out],hG.out.trans gG⟩
   ·obtain rfl:nd=0:=by omega
    have HF:Hid (jT xs k0=k):=fE (by rw[<-hE.out];cases xs.drop k <;> rfl);go_wp2_with(fail);exact Ln (v:=F I (k:Int)) (by simp[Ly,results218,go_sem]) rfl ⟨by rw[HF.out],hG.out.trans gG⟩
theorem sD {g:Prop} (f:g:=by
  go_enter func188,ntmps188
  go_wp2_with(fail)
  exact Ln (v:=X U) (by simp[Ly,results188,go_sem]) rfl ⟨by rw[HF.out],gG⟩):g:=f
theorem zjE (hx:(iz.sl 159).R w w.heap.size [J A xs.length c] xs)(hl:xs.length<=1099511627776) :
  LR prog 188 #[J A xs.length c] w fun e w'=>e=.returned (X (l4 xs))/\fF w w':=by
 have a2:fV 0:=⟨by omega,by omega⟩
 have HD:Hid (l4 xs=(decide (0<xs.length) && (decide (xs.length<=20) && decide (jT xs 0=xs.length)))):=fE rfl;by_cases h0:0<xs.length
 ·have a1:(0:Int)<(xs.length:Int):=by omega
  by_cases h20:xs.length<=20
  ·have a0:(xs.length:Int)<=20:=by omega
   obtain⟨q,hq⟩:∃ q,jT xs 0=q:=⟨_,rfl⟩
   have HF:Hid (l4 xs=(q == (xs.length:Int))):=fE (by rw[HD.out,hq];simp only[h0,h20,OU,M4];by_cases hh:q=(xs.length:Int) <;> simp[hh]);have HQ:=fE hq;clear hq;go_enter func188,ntmps188;go_wp2_with(first | (go_at_call 224;(with_reducible refine(zhX (a:=0) (Ty.up _ hx gF) a2 hl).mono ?_);rw[HQ.out];rintro e v1 ⟨rfl,hg⟩));refine Ln (v:=X (q == (xs.length:Int))) (by simp[Ly,results188,go_sem]) rfl ⟨by rw[HF.out],fF.trans (b:=_) gF (hg.trans gF)⟩
  ·have a0:¬ ((xs.length:Int)<=20):=by omega
   have HF:Hid (l4 xs=U):=fE (by rw[HD.out];simp[h20]);exact sD
 ·have a1:¬ ((0:Int)<(xs.length:Int)):=by omega
  have a0:(xs.length:Int)<=20:=by omega
  have HF:Hid (l4 xs=U):=fE (by rw[HD.out];simp[h0]);exact sD
theorem sE {g:Prop} (f:g:=by
  go_enter func174,ntmps174
  go_wp2_with(fail)
  exact Ln (v:=X U) (by simp[Ly,results174,go_sem]) rfl ⟨by rw[HF.out],gG⟩):g:=f
theorem zjF (hx:(iz.sl 159).R w w.heap.size [J A xs.length c] xs)(hl:xs.length<=1099511627776) :
  LR prog 174 #[J A xs.length c] w fun e w'=>e=.returned (X (l4 xs))/\fF w w':=by
 have a2:fV 0:=⟨by omega,by omega⟩
 have HD:Hid (l4 xs=(decide (0<xs.length) && (decide (xs.length<=20) && decide (jT xs 0=xs.length)))):=fE rfl;by_cases h0:0<xs.length
 ·have a1:(0:Int)<(xs.length:Int):=by omega
  by_cases h20:xs.length<=20
  ·have a0:(xs.length:Int)<=20:=by omega
   obtain⟨q,hq⟩:∃ q,jT xs 0=q:=⟨_,rfl⟩
   have HF:Hid (l4 xs=(q == (xs.length:Int))):=fE (by rw[HD.out,hq];simp only[h0,h20,OU,M4];by_cases hh:q=(xs.length:Int) <;> simp[hh]);have HQ:=fE hq;clear hq;go_enter func174,ntmps174;go_wp2_with(first | (go_at_call 218;(with_reducible refine(zhY (a:=0) (Ty.up _ hx gF) a2 hl).mono ?_);rw[HQ.out];rintro e v1 ⟨rfl,hg⟩));refine Ln (v:=X (q == (xs.length:Int))) (by simp[Ly,results174,go_sem]) rfl ⟨by rw[HF.out],fF.trans (b:=_) gF (hg.trans gF)⟩
  ·have a0:¬ ((xs.length:Int)<=20):=by omega
   have HF:Hid (l4 xs=U):=fE (by rw[HD.out];simp[h20]);exact sE
 ·have a1:¬ ((0:Int)<(xs.length:Int)):=by omega
  have a0:(xs.length:Int)<=20:=by omega
  have HF:Hid (l4 xs=U):=fE (by rw[HD.out];simp[h0]);exact sE
def ji (xs:Q Int)(w:N)(r:Ending)(w':N):Prop:=∃ A c S,r=.returned (J A xs.length c)/\Has (zF.sl 3) w' [J A xs.length c] xs S/\(∀ b∈S,w.heap.size<=b)/\fF w w'
theorem ji.mk {xs ys:Q Int} {w':N} {n:Nat} {S:Q Nat} (h:Has (zF.sl 3) w' [J A n c] ys S)(he:ys=xs)(hn:n=ys.length)(hS:∀ b∈S,w.heap.size<=b)(hg:fF w w'):ji xs w (.returned (J A n c)) w':=by
 subst he hn;exact⟨A,c,S,rfl,h,hS,hg⟩
theorem rI {g:Prop} (f:g:=by
  go_roundw
  case measure=>exact gL
  case rel=>
   refine⟨nx+ex.size,ys++[(nx:Int)],q,A8,c8,S8,by simp,by rw[HEN.out],by rw[HM.out],hnl,by rw[HM.out];simp only[Lj,LJ,Mk];omega,fE (hgr8.trans (fF.trans (b:=_) gF (hg.trans gF))),fE (by rw[Lj];exact hH8.fO (fF.trans (b:=_) gF (hg.trans gF))),fE (fun b hb=>?_),fE hwf.out.2,HD3,fE (by rw[<-hE.out];simp[gj.gD])⟩
   rcases hS8 b hb with h | h
   ·exact hS.out b h
   ·have:=hG.out.size;simp at h;omega):g:=f
theorem n8 {g:Prop} (f:g:=by
  have h:=MY List.length hd1
  rw[Lj,ks.gw,NM] at h
  omega):g:=f
theorem sY {g:Prop} (f:g:=by
  have h:=MY List.length hd2
  rw[Lj,ex.gw,NM] at h
  omega):g:=f
theorem zhc {a:Nat} {ks:gj} (hx:(iz.sl 159).R w w.heap.size [J A xs.length c] xs)(hl:xs.length<=1099511627776)(hw:(Ex.node t ks).wf)(hd:xs.drop a=(Ex.node t ks).flat++rs) :
  LR prog 266 #[J A xs.length c,F I a] w (ji (ks.gD (a+1)) w):=by
 obtain⟨a7,hd1⟩:=pw (show xs.drop a=t::(ks.flat++rs) from hd);have ai:a<xs.length:=(Lh.1 a7).1;obtain⟨g,az,x,hA,aj,a4,x0,x1,x2,bk,bn,bs⟩:=mj hx ai;obtain rfl:x=t:=by rw[a7] at a4;injection a4 with a4;exact a4.symm
 clear a7 a4
 have ax:ks.size<=xs.length:=by
  exact n8
 have ar:=ks.jd;obtain⟨en,aa⟩:∃ en:Int,en=((a+(Ex.node x ks).size:Nat):Int):=⟨_,rfl⟩
 have HE:Hid (jT xs (a:Int)=en):=fE (by rw[aa];exact uN hw hd);have a6:fV (a:Int):=⟨by omega,by omega⟩
 have an:¬ (en<0):=by omega
 have ad:Hid (iL x=(ks.len:Int)):=fE hw.2.1;have af:=fE hw.2.2;have ao:(a:Int)<(xs.length:Int):=by omega
 have ah:(0:Int)<=(a:Int):=by omega
 have ap:Ll I ((a:Int)+1)=(a:Int)+1:=iw;have ae:=fE hd1;have a0:=fF.refl w;clear hd hd1 hw aa;subst hA;go_enter func266,ntmps266;go_wp2_with(first | (go_at_call 224;(with_reducible refine(zhX (xs:=xs) (a:=(a:Int)) (Ty.up _ hx gF) a6 hl).mono ?_);rw[HE.out];rintro e v1 ⟨rfl,hg⟩;have a0:=a0.trans (fF.trans (b:=_) gF hg);have aq:=Li aj a0.size;have x0:=za a0 x0;have x1:=za a0 x1;have x2:=za a0 x2) | (go_at_call 245;(with_reducible refine(zo2 (t:=x) bs).mono ?_);rw[ad.out];rintro e v2 ⟨rfl,ab⟩));have a8:fF w v2:=a0.trans (fF.trans (b:=_) gF ab);have ay:=a0.size;go_loopw [5,6,7] (fun z q j wr=>∃(nx:Nat) (ys:Q Int) (qs:gj) (A7:K Mh) (c7:Nat) (S:Q Nat),z=J A7 ys.length c7/\q=F I nx/\j=F I qs.len/\nx<=xs.length/\ys.length+qs.len<=xs.length/\Hid (fF w wr)/\Hid (Has (zF.sl 3) wr [J A7 ys.length c7] ys S)/\Hid (∀ b∈S,w.heap.size<=b)/\Hid qs.wf/\Hid (xs.drop nx=qs.flat++rs)/\Hid (ys++qs.gD nx=ks.gD (a+1))) (fun _ _ j _=>(Ml j).toNat)
 case atStart=>
  exact⟨a+1,[],ks,_,0,[v1.heap.size],rfl,by go_num,rfl,by omega,by simp only[Mk];omega,fE (a8.trans gF),fE (Has.emp zF (zj (Lp _ _) (fF.trans (b:=_) gF ab))),fE (fun b hb=>by simp at hb;omega),af,ae,fE rfl⟩
 case round=>
  obtain⟨nx,ys,qs,A7,c7,S,rfl,rfl,rfl,aw,a5,hG,hH,hS,hwf,a3,hE⟩:=hrel
  match qs,hwf,a3,hE,a5 with
  | .nil,hwf,a3,hE,a5=>
   have HF:Hid (ys=ks.gD (a+1)):=fE (by have h:=hE.out;simpa[gj.gD] using h);have am:¬ ((0:Int)<((gj.nil.len:Nat):Int)):=by simp[gj.len]
   go_wp2_with(fail);exact Ln (v:=J A7 ys.length c7) (by simp[Ly,results266,go_sem]) rfl (ji.mk hH.out HF.out rfl hS.out (hG.out.trans gG))
  | .cons ex q,hwf,a3,hE,a5=>
   obtain⟨m,hm⟩:∃ m,q.len=m:=⟨_,rfl⟩
   have a9:(gj.cons ex q).len=m+1:=by simp only[gj.len,hm]
   have HM:=fE hm;rw[a9];have au:(0:Int)<((m+1:Nat):Int):=by omega
   have av:Ll I (((m+1:Nat):Int)-1)=(m:Int):=by rw[show ((m+1:Nat):Int)-1=(m:Int) from by omega];exact iw
   have hd2:xs.drop nx=ex.flat++(q.flat++rs):=by rw[a3.out];simp only[gj.flat,LZ]
   obtain⟨ag,a1⟩:∃ en:Int,en=((nx+ex.size:Nat):Int):=⟨_,rfl⟩
   have HN:Hid (jT xs (nx:Int)=ag):=fE (by rw[a1];exact uN hwf.out.1 hd2);have a2:fV (nx:Int):=⟨by omega,by omega⟩
   have ac:=a2
   have hnl:nx+ex.size<=xs.length:=by
    exact sY
   have HD3:Hid (xs.drop (nx+ex.size)=q.flat++rs):=fE (by rw[<-Nh,hd2,<-ex.gw,NP]);have HEN:=fE a1;have al:ys.length+(m+1)<=xs.length:=by rw[<-a9];exact a5
   clear hd2 a1 hm a9 a5 a3;go_wp2_with(first | (refine zr (L:=ys.length+1) (y:=(nx:Int)) rfl (.tmp 24) (.tmp 26) kJ zP (S:=S) (hH.out.fO gF) (ec:=[F I nx]) (W1:=w) (B:=w.heap.size) ⟨rfl,ac.1,ac.2⟩ rfl rfl rfl (by intro j u hu;simpa[go_sem] using hu) rfl (by omega) (by omega) ?_;intro A8 c8 W8 S8 ak hH8 hS8;have hgr8:fF w W8:=ak.fO (hG.out.trans gF) hS.out) | (go_at_call 224;(with_reducible refine(zhX (xs:=xs) (a:=(nx:Int)) (Ty.up _ hx (hgr8.trans gF)) a2 hl).mono ?_);rw[HN.out];rintro e v1 ⟨rfl,hg⟩));exact rI
theorem zoI {a:Nat} {ks:gj} (hx:(iz.sl 159).R w w.heap.size [J A xs.length c] xs)(hl:xs.length<=1099511627776)(hw:(Ex.node t ks).wf)(hd:xs.drop a=(Ex.node t ks).flat++rs) :
  LR prog 253 #[J A xs.length c,F I a] w (ji (ks.gD (a+1)) w):=by
 obtain⟨a7,hd1⟩:=pw (show xs.drop a=t::(ks.flat++rs) from hd);have ai:a<xs.length:=(Lh.1 a7).1;obtain⟨g,az,x,hA,aj,a4,x0,x1,x2,bk,bn,bs⟩:=mj hx ai;obtain rfl:x=t:=by rw[a7] at a4;injection a4 with a4;exact a4.symm
 clear a7 a4
 have ax:ks.size<=xs.length:=by
  exact n8
 have ar:=ks.jd;obtain⟨en,aa⟩:∃ en:Int,en=((a+(Ex.node x ks).size:Nat):Int):=⟨_,rfl⟩
 have HE:Hid (jT xs (a:Int)=en):=fE (by rw[aa];exact uN hw hd);have a6:fV (a:Int):=⟨by omega,by omega⟩
 have an:¬ (en<0):=by omega
 have ad:Hid (iL x=(ks.len:Int)):=fE hw.2.1;have af:=fE hw.2.2;have ao:(a:Int)<(xs.length:Int):=by omega
 have ah:(0:Int)<=(a:Int):=by omega
 have ap:Ll I ((a:Int)+1)=(a:Int)+1:=iw;have ae:=fE hd1;have a0:=fF.refl w;clear hd hd1 hw aa;subst hA;go_enter func253,ntmps253;go_wp2_with(first | (go_at_call 218;(with_reducible refine(zhY (xs:=xs) (a:=(a:Int)) (Ty.up _ hx gF) a6 hl).mono ?_);rw[HE.out];rintro e v1 ⟨rfl,hg⟩;have a0:=a0.trans (fF.trans (b:=_) gF hg);have aq:=Li aj a0.size;have x0:=za a0 x0;have x1:=za a0 x1;have x2:=za a0 x2) | (go_at_call 235;(with_reducible refine(zlM (t:=x) bs).mono ?_);rw[ad.out];rintro e v2 ⟨rfl,ab⟩));have a8:fF w v2:=a0.trans (fF.trans (b:=_) gF ab);have ay:=a0.size;go_loopw [5,6,7] (fun z q j wr=>∃(nx:Nat) (ys:Q Int) (qs:gj) (A7:K Mh) (c7:Nat) (S:Q Nat),z=J A7 ys.length c7/\q=F I nx/\j=F I qs.len/\nx<=xs.length/\ys.length+qs.len<=xs.length/\Hid (fF w wr)/\Hid (Has (zF.sl 3) wr [J A7 ys.length c7] ys S)/\Hid (∀ b∈S,w.heap.size<=b)/\Hid qs.wf/\Hid (xs.drop nx=qs.flat++rs)/\Hid (ys++qs.gD nx=ks.gD (a+1))) (fun _ _ j _=>(Ml j).toNat)
 case atStart=>
  exact⟨a+1,[],ks,_,0,[w.heap.size],rfl,by go_num,rfl,by omega,by simp only[Mk];omega,fE (a8.trans gF),fE (Has.emp zF (zj (Lp _ _) ((fF.trans (b:=_) gF hg).trans (fF.trans (b:=_) gF ab)))),fE (fun b hb=>by simp at hb;omega),af,ae,fE rfl⟩
 case round=>
  obtain⟨nx,ys,qs,A7,c7,S,rfl,rfl,rfl,aw,a5,hG,hH,hS,hwf,a3,hE⟩:=hrel
  match qs,hwf,a3,hE,a5 with
  | .nil,hwf,a3,hE,a5=>
   have HF:Hid (ys=ks.gD (a+1)):=fE (by have h:=hE.out;simpa[gj.gD] using h);have am:¬ ((0:Int)<((gj.nil.len:Nat):Int)):=by simp[gj.len]
   go_wp2_with(fail);exact Ln (v:=J A7 ys.length c7) (by simp[Ly,results253,go_sem]) rfl (ji.mk hH.out HF.out rfl hS.out (hG.out.trans gG))
  | .cons ex q,hwf,a3,hE,a5=>
   obtain⟨m,hm⟩:∃ m,q.len=m:=⟨_,rfl⟩
   have a9:(gj.cons ex q).len=m+1:=by simp only[gj.len,hm]
   have HM:=fE hm;rw[a9];have au:(0:Int)<((m+1:Nat):Int):=by omega
   have av:Ll I (((m+1:Nat):Int)-1)=(m:Int):=by rw[show ((m+1:Nat):Int)-1=(m:Int) from by omega];exact iw
   have hd2:xs.drop nx=ex.flat++(q.flat++rs):=by rw[a3.out];simp only[gj.flat,LZ]
   obtain⟨ag,a1⟩:∃ en:Int,en=((nx+ex.size:Nat):Int):=⟨_,rfl⟩
   have HN:Hid (jT xs (nx:Int)=ag):=fE (by rw[a1];exact uN hwf.out.1 hd2);have a2:fV (nx:Int):=⟨by omega,by omega⟩
   have ac:=a2
   have hnl:nx+ex.size<=xs.length:=by
    exact sY
   have HD3:Hid (xs.drop (nx+ex.size)=q.flat++rs):=fE (by rw[<-Nh,hd2,<-ex.gw,NP]);have HEN:=fE a1;have al:ys.length+(m+1)<=xs.length:=by rw[<-a9];exact a5
   clear hd2 a1 hm a9 a5 a3;go_wp2_with(first | (refine zr (L:=ys.length+1) (y:=(nx:Int)) rfl (.tmp 25) (.tmp 27) kJ zP (S:=S) (hH.out.fO gF) (ec:=[F I nx]) (W1:=w) (B:=w.heap.size) ⟨rfl,ac.1,ac.2⟩ rfl rfl rfl (by intro j u hu;simpa[go_sem] using hu) rfl (by omega) (by omega) ?_;intro A8 c8 W8 S8 ak hH8 hS8;have hgr8:fF w W8:=ak.fO (hG.out.trans gF) hS.out) | (go_at_call 218;(with_reducible refine(zhY (xs:=xs) (a:=(nx:Int)) (Ty.up _ hx (hgr8.trans gF)) a2 hl).mono ?_);rw[HN.out];rintro e v1 ⟨rfl,hg⟩));exact rI
end Go.Proofs.YtiihkapmggfjkaaGreat
