/-
  PART.
-/
import Derived.Test.YthgbglbaemelhaaGreatM2LawSlices
import Derived.Test.YthgbglbaemelhaaGreatM3LawSlices
set_option linter.unusedVariables false
set_option linter.unusedSimpArgs false
set_option maxRecDepth 100000
set_option maxHeartbeats 8000000
namespace Go.Proofs.YthgbglbaemelhaaGreat
open Value renaming slice->G,int->J,bool->H,string->V
open IntKind renaming i64->C,wrap->QP
open Option renaming none->D,some->Z
open Obj renaming cells->F
open Bool renaming false->I,true->M
open Go renaming World->U,results->Rd,Calls->Rh,Addr->Ri
open World renaming cell?->QL
open _root_.Int renaming toNat_natCast->Ra
open RowKit renaming intOf->Ry,wrap64->Sf
open List renaming length_singleton->RD
open Tryz
open Go.RowKit
variable {b j m:Nat}{e:TypeId}
def Dn (r:s7)(w:U)(e:Ending)(w':U):Prop:=e=.returned (.tuple #[.agg #[J C r.code,J C r.arg],J C r.n,H r.ok])/\ft w w'
theorem pw {r q:s7} (h:r=q){w w':U}(hG:ft w w'):Dn r w (.returned (.tuple #[.agg #[J C q.code,J C q.arg],J C q.n,H q.ok])) w':=by
 subst h;exact⟨rfl,hG⟩
theorem vv {g:Prop} (f:g:=by
  rw[Int.pow_mul,show (2:Int) ^ 8=((256:Nat):Int) from by decide]
  exact(Int.natCast_pow 256 j).symm):g:=f
theorem OO (hb:b<256)(hj:j<4)(hm:m<256 ^ j):bits .or C (m:Int) (Sf ((b:Int)*2 ^ (8*j)))=((m+b*256 ^ j:Nat):Int):=by
 have hp:256 ^ (j+1)<=4294967296:=by
  have h:=TW (show 0<256 by omega) (show j+1<=4 by omega);exact h
 have a0:b*256 ^ j<=255*256 ^ j:=Sk _ (by omega);have hs:(256:Nat) ^ (j+1)=256*256 ^ j:=by rw[Nat.pow_succ,UM]
 have e0:(2:Int) ^ (8*j)=((256 ^ j:Nat):Int):=by
  exact vv
 have e1:((b:Int)*2 ^ (8*j))=((b*256 ^ j:Nat):Int):=by rw[e0,<-Int.natCast_mul]
 have e2:Sf ((b*256 ^ j:Nat):Int)=((b*256 ^ j:Nat):Int):=rS (by omega) (by omega);rw[e1,e2,BN,bits_join C 62 (by decide) Af (8*j) _ _ (by omega) (by rw[e0];norm_cast;exact Nat.mul_mod_left _ _) (by norm_cast;omega) (by omega) (by rw[e0];exact_mod_cast hm) (by norm_cast;omega)];omega
theorem ym {W:U} {g:Nat} {p q:Value} (h:W.heap[g]?=Z (F #[p,q] e (0,0)))(b:Value):(W.setCell ⟨g,1,D⟩ b).heap[g]?=Z (F #[p,b] e (0,0))/\fw [g] W (W.setCell ⟨g,1,D⟩ b):=
 ⟨zN h 1 b,(fw.refl _ _).setCell (p:=⟨g,1,D⟩) (by simp) b⟩
theorem tP {g:Prop} (f:g:=by
  have hun:nt s (a+1) j+s[a+1+j].toNat*256 ^ j=nt s (a+1) (j+1):=by rw[nt,hb]
  rw[hun] at hor
  have hul2:nt s (a+1) j<4294967296:=QS hul (TW (by omega) (show j<=4 by omega))
  obtain⟨u,hu⟩:∃ u,nt s (a+1) j=u:=⟨_,rfl⟩
  obtain⟨v,hv⟩:∃ v,nt s (a+1) (j+1)=v:=⟨_,rfl⟩
  rw[hu] at hor x1 hul2
  rw[hv] at hor
  have HV:=fh hv
  clear hul hun hb hu hv
  have hjn2:(j:Int)<(n:Int):=by omega
  have w1:QP C ((a:Int)+1)=(a:Int)+1:=RU _ (by omega)
  have w2:QP C ((a:Int)+1+j)=(a:Int)+1+j:=RU _ (by omega)
  have w3:(0:Int)<=(a:Int)+1+j:=by omega
  have w4:(a:Int)+1+j<s.size:=by omega
  go_wp2_with(fail)
  go_region
  go_wp2_with(fail)
  have h2:=ym hx.out (J C v)
  go_roundw
  exact⟨j+1,by go_num,by omega,fh (by rw[HV.out];exact h2.1),fh ((h2.2.block g (by omega) (by simp)).trans hr.out),fh ((h2.2.fx hG.out (fun b hb=>by simp at hb;omega)).drew)⟩
  exact gH):g:=f
theorem tY {g:Prop} (f:g:=by
  go_enter func130,ntmps130
  go_wp2_with(first
   | (go_at_call 38;(with_reducible refine(lP _ _ _ _).mono ?_);rw[HB.out];rintro e w1 ⟨rfl,rfl⟩)
   | (go_at_call 171;(with_reducible refine(zli _ _).mono ?_);rw[HZ.out];rintro e w1 ⟨rfl,rfl⟩))
  exact QU (v:=.tuple #[.agg #[J C 0,J C 0],J C 0,H I]) (by simp[Rd,results130,go_sem]) rfl (pw (q:=⟨0,0,0,I⟩) HD.out gG)):g:=f
theorem uO {g:Prop} (f:g:=by
  have h:=QO (w.alloc (F #[J C 0,J C 0] 142)) (F #[J C (s[a].toNat:Int),J C 0] 142)
  rw[Rf] at h
  exact h):g:=f
theorem zgc (s:N)(a:Int)(w:U)(hs:s.size<=1099511627776)(ha:fD a):Rh prog 130 #[V s,J C a] w (Dn (jh s a) w):=by
 obtain⟨ag,ah⟩:=ha;cases hb:fT a 0 ((s.size:Int)-1)
 ·have HD:=fh (wM (s:=s) (a:=a) (fun h=>by rw[pU (by omega) (by omega)] at hb;cases hb))
  have HB:=fh hb;clear hb;go_enter func130,ntmps130;go_wp2_with(go_at_call 38;(with_reducible refine(lP _ _ _ _).mono ?_);rw[HB.out];rintro e w1 ⟨rfl,rfl⟩);exact QU (v:=.tuple #[.agg #[J C 0,J C 0],J C 0,H I]) (by simp[Rd,results130,go_sem]) rfl (pw (q:=⟨0,0,0,I⟩) HD.out gG)
 ·obtain⟨ac,ad⟩:=zu.1 hb
  have HB:=fh hb;clear hb;obtain⟨a,rfl⟩:=Rl ac;have ab:a<s.size:=by omega
  have a1:=xQ ab;obtain⟨c,hc⟩:∃ c,lE s a=c:=⟨_,rfl⟩
  have a8:c<256:=hc ▸ CI s a;rw[hc] at a1;have aj:0<=(s[a].toNat:Int)/\(s[a].toNat:Int)<=255:=by omega
  by_cases hc17:c<=17
  case neg=>
   have HD:=fh (wM (s:=s) (a:=(a:Int)) (fun h=>by rw[Ra,hc] at h;exact hc17 h.2.2.1));have HZ:=fh (show zL (s[a].toNat:Int)=0 from by rw[<-a1,yV,QZ (by simp[fT];omega)]);exact tY
  obtain⟨n,sg,hw⟩:∃ n sg,iv (c:Int)=(n,sg):=⟨_,_,rfl⟩
  have a3:=zw (c:Int);rw[hw] at a3;have ai:n<=4:=by have:=rr (c:Int);rw[hw] at this;exact this
  have HZ:=fh (show zL (s[a].toNat:Int)=(n:Int)+1 from by rw[<-a1,yV,Q5 (pU (by omega) (by omega)),hw]);have HW:=fh (show iv (s[a].toNat:Int)=(n,sg) from by rw[<-a1];exact hw);by_cases hfit:a+1+n<=s.size
  case neg=>
   have HD:=fh (wM (s:=s) (a:=(a:Int)) (fun h=>by rw[Ra,hc,hw] at h;exact hfit h.2.2.2));have a9:((n:Int)+1 == 0)=I:=by simp;omega
   have aa:decide ((s.size:Int)<(a:Int)+((n:Int)+1))=M:=QY (by omega);clear hw hc a1;exact tY
  have HD:=fh (Cw ab hc hc17 hw hfit);have a9:((n:Int)+1 == 0)=I:=by simp;omega
  have aa:decide ((s.size:Int)<(a:Int)+((n:Int)+1))=I:=QT (by omega);clear hw hc;go_enter func130,ntmps130
  go_wp2_with(first
   | (go_at_call 38;(with_reducible refine(lP _ _ _ _).mono ?_);rw[HB.out];rintro e w1 ⟨rfl,rfl⟩)
   | (go_at_call 171;(with_reducible refine(zli _ _).mono ?_);rw[HZ.out];rintro e w1 ⟨rfl,rfl⟩)
   | (go_at_call 172;(with_reducible refine(zku _ _).mono ?_);rw[HW.out];rintro e w1 ⟨rfl,rfl⟩))
  have hG:ft w ((w.alloc (F #[J C 0,J C 0] 142)).alloc (F #[J C (s[a].toNat:Int),J C 0] 142)):=gG;have er:((w.alloc (F #[J C 0,J C 0] 142)).alloc (F #[J C (s[a].toNat:Int),J C 0] 142)).heap[w.heap.size]?=Z (F #[J C 0,J C 0] 142 (0,0)):=zj (QO w _) gF
  have ex:((w.alloc (F #[J C 0,J C 0] 142)).alloc (F #[J C (s[a].toNat:Int),J C 0] 142)).heap[w.heap.size+1]?=Z (F #[J C (s[a].toNat:Int),J C 0] 142 (0,0)):=by
   exact uO
  obtain⟨g,hg⟩:∃ g,w.heap.size=g:=⟨_,rfl⟩
  rw[hg] at er ex |-;generalize ((w.alloc _).alloc _)=Y at hG er ex |-;go_loopw [11] (fun x wr=>∃(j:Nat),x=J C j/\j<=n/\Hid (wr.heap[g+1]?=Z (F #[J C (s[a].toNat:Int),J C (nt s (a+1) j:Nat)] 142 (0,0)))/\Hid (wr.heap[g]?=Z (F #[J C 0,J C 0] 142 (0,0)))/\Hid (ft w wr)) (fun x _=>n-(Ry x).toNat)
  case atStart=>exact⟨0,rfl,by omega,fh ex,fh er,fh hG⟩
  case round=>
   clear hG er ex;obtain⟨j,rfl,hj,hx,hr,hG⟩:=hrel;obtain⟨x0,x1,am,an,xl⟩:=kI hx.out;by_cases hjn:j<n
   ·have ae:a+1+j<s.size:=by omega
    have hb:=xQ ae;have ad:0<=(s[a+1+j].toNat:Int)/\(s[a+1+j].toNat:Int)<=255:=by have:=s[a+1+j].toNat_lt;omega
    have hul:=sM s (a+1) j;have hor:=OO (m:=nt s (a+1) j) (j:=j) (b:=s[a+1+j].toNat) (by omega) (by omega) hul;exact tP
   ·obtain rfl:j=n:=by omega
    have hul:=sM s (a+1) j;obtain⟨u,hu⟩:∃ u,nt s (a+1) j=u:=⟨_,rfl⟩
    rw[hu] at hul x1 HD;have h0:=hr.out;have a7:=hx.out;rw[hu] at a7;clear hx hr;obtain⟨r0,r1,ak,al,rl⟩:=kI h0;have a0:(sg=M/\2 ^ (8*j-1)<=u)∨¬ (sg=M/\2 ^ (8*j-1)<=u):=Classical.em _;clear hu HB HZ HW hfit a9 aa;rcases a0 with a0 | a0
    ·have a4:jh s (a:Int)=⟨(c:Int),(u:Int)-2 ^ (8*j),j+1,M⟩:=by rw[HD.out];unfold qG;rw[Q5 a0]
     have HQ:=fh a4;obtain⟨rfl,a0⟩:=a0;clear a4 HD;simp only[SM,Uf,TO,and_false,SH,false_or] at a3;rcases a3 with rfl | rfl
     ·skip
      have a5:(2147483648:Int)<=(u:Int):=by simp at a0;omega
      have a6:(u:Int)<4294967296:=by simp at hul;omega
      have af:QP C ((u:Int)-4294967296)=(u:Int)-4294967296:=iw;clear hul a0;go_wp2_with(fail);go_region;go_wp2_with(fail);go_region;go_wp2_with(fail);have hk:=ym a7 (J C ((u:Int)-4294967296));have h1:=(hk.2.block g (by omega) (by simp)).trans h0;have h2:=rD h1 (J C (s[a].toNat:Int)) (J C ((u:Int)-4294967296));have hz:=kI h2.1;refine QU (v:=.tuple #[.agg #[J C (s[a].toNat:Int),J C ((u:Int)-4294967296)],J C ((4+1:Nat):Int),H M]) (by simp[Rd,results130,go_sem,hz,rl]) rfl ?_;exact pw (q:=⟨(s[a].toNat:Int),(u:Int)-4294967296,4+1,M⟩) (by rw[HQ.out,a1];try rfl) ((h2.2.fx (hk.2.fx hG.out (fun b hb=>by simp at hb;omega)) (fun b hb=>by simp at hb;omega)).trans gF)
     ·skip
      have a5:(32768:Int)<=(u:Int):=by simp at a0;omega
      have a6:(u:Int)<65536:=by simp at hul;omega
      have af:QP C ((u:Int)-65536)=(u:Int)-65536:=iw;clear hul a0;go_wp2_with(fail);go_region;go_wp2_with(fail);go_region;go_wp2_with(fail);have hk:=ym a7 (J C ((u:Int)-65536));have h1:=(hk.2.block g (by omega) (by simp)).trans h0;have h2:=rD h1 (J C (s[a].toNat:Int)) (J C ((u:Int)-65536));have hz:=kI h2.1;refine QU (v:=.tuple #[.agg #[J C (s[a].toNat:Int),J C ((u:Int)-65536)],J C ((2+1:Nat):Int),H M]) (by simp[Rd,results130,go_sem,hz,rl]) rfl ?_;exact pw (q:=⟨(s[a].toNat:Int),(u:Int)-65536,2+1,M⟩) (by rw[HQ.out,a1];try rfl) ((h2.2.fx (hk.2.fx hG.out (fun b hb=>by simp at hb;omega)) (fun b hb=>by simp at hb;omega)).trans gF)
    ·have a4:jh s (a:Int)=⟨(c:Int),(u:Int),j+1,M⟩:=by rw[HD.out];unfold qG;rw[QZ a0]
     have HQ:=fh a4;clear a4 HD;cases sg with
     | false=>
      clear a0 a3 hul;go_wp2_with(fail);go_region;go_wp2_with(fail);have h2:=rD h0 (J C (s[a].toNat:Int)) (J C ((u:Int)));have hz:=kI h2.1;refine QU (v:=.tuple #[.agg #[J C (s[a].toNat:Int),J C ((u:Int))],J C ((j+1:Nat):Int),H M]) (by simp[Rd,results130,go_sem,hz,rl]) rfl ?_;exact pw (q:=⟨(s[a].toNat:Int),(u:Int),j+1,M⟩) (by rw[HQ.out,a1];try rfl) ((h2.2.fx hG.out (fun b hb=>by simp at hb;omega)).trans gF)
     | true=>
      have a2:¬ 2 ^ (8*j-1)<=u:=fun h=>a0 ⟨rfl,h⟩;simp only[SM,Uf,TO,and_false,SH,false_or] at a3;rcases a3 with rfl | rfl
      ·have a5:decide ((2147483648:Int)<=(u:Int))=I:=QT (by simp at a2;omega)
       clear a0 a2 hul;go_wp2_with(fail);go_region;go_wp2_with(fail);have h2:=rD h0 (J C (s[a].toNat:Int)) (J C ((u:Int)));have hz:=kI h2.1;refine QU (v:=.tuple #[.agg #[J C (s[a].toNat:Int),J C ((u:Int))],J C ((4+1:Nat):Int),H M]) (by simp[Rd,results130,go_sem,hz,rl]) rfl ?_;exact pw (q:=⟨(s[a].toNat:Int),(u:Int),4+1,M⟩) (by rw[HQ.out,a1];try rfl) ((h2.2.fx hG.out (fun b hb=>by simp at hb;omega)).trans gF)
      ·have a5:decide ((32768:Int)<=(u:Int))=I:=QT (by simp at a2;omega)
       clear a0 a2 hul;go_wp2_with(fail);go_region;go_wp2_with(fail);have h2:=rD h0 (J C (s[a].toNat:Int)) (J C ((u:Int)));have hz:=kI h2.1;refine QU (v:=.tuple #[.agg #[J C (s[a].toNat:Int),J C ((u:Int))],J C ((2+1:Nat):Int),H M]) (by simp[Rd,results130,go_sem,hz,rl]) rfl ?_;exact pw (q:=⟨(s[a].toNat:Int),(u:Int),2+1,M⟩) (by rw[HQ.out,a1];try rfl) ((h2.2.fx hG.out (fun b hb=>by simp at hb;omega)).trans gF)
theorem Ma (hb:b<256)(hj:j<4)(hm:m<256 ^ j):QP C ((m:Int)+Sf ((b:Int)*2 ^ (8*j)))=((m+b*256 ^ j:Nat):Int):=by
 have hp:256 ^ (j+1)<=4294967296:=by
  have h:=TW (show 0<256 by omega) (show j+1<=4 by omega);exact h
 have a0:b*256 ^ j<=255*256 ^ j:=Sk _ (by omega);have hs:(256:Nat) ^ (j+1)=256*256 ^ j:=by rw[Nat.pow_succ,UM]
 have e0:(2:Int) ^ (8*j)=((256 ^ j:Nat):Int):=by
  exact vv
 have e1:((b:Int)*2 ^ (8*j))=((b*256 ^ j:Nat):Int):=by rw[e0,<-Int.natCast_mul]
 rw[e1,rS (by omega) (by omega),<-Int.natCast_add];exact iw
theorem tZ {g:Prop} (f:g:=by
  go_enter func135,ntmps135
  go_wp2_with(first
   | (go_at_call 167;(with_reducible refine(zfT _ _).mono ?_);rw[HZ.out];rintro e w1 ⟨rfl,rfl⟩)
   | (go_at_call 180;(with_reducible refine(zdY _ _).mono ?_);rw[HW.out];rintro e w1 ⟨rfl,rfl⟩))
  exact QU (v:=.tuple #[.agg #[J C 0,J C 0],J C 0,H I]) (by simp[Rd,results135,go_sem]) rfl (pw (q:=⟨0,0,0,I⟩) HD.out gG)):g:=f
theorem uC {g:Prop} (f:g:=by
  go_enter func135,ntmps135
  go_wp2_with(fail)
  exact QU (v:=.tuple #[.agg #[J C 0,J C 0],J C 0,H I]) (by simp[Rd,results135,go_sem]) rfl (pw (q:=⟨0,0,0,I⟩) HD.out gG)):g:=f
theorem zkI (s:N)(a:Int)(w:U)(hs:s.size<=1099511627776)(ha:fD a):Rh prog 135 #[V s,J C a] w (Dn (jh s a) w):=by
 obtain⟨ai,aj⟩:=ha;cases hb:fT a 0 ((s.size:Int)-1)
 ·have HD:=fh (wM (s:=s) (a:=a) (fun h=>by rw[pU (by omega) (by omega)] at hb;cases hb))
  have a6:a<0∨(0<=a/\(s.size:Int)<=a):=by
   rcases Int.lt_or_le a 0 with h | h
   ·exact .inl h
   ·refine .inr ⟨h,?_⟩
    have:¬ a<=(s.size:Int)-1:=fun h2=>by rw[pU h h2] at hb;cases hb
    omega
  clear hb;rcases a6 with h | ⟨h,h'⟩
  ·have q0:decide (a<0)=M:=QY h
   exact uC
  ·have q0:decide (a<0)=I:=QT (by omega)
   have q1:decide ((s.size:Int)<=a)=M:=QY h';exact uC
 ·obtain⟨ad,ae⟩:=zu.1 hb
  clear hb;obtain⟨a,rfl⟩:=Rl ad;have q0:decide ((a:Int)<0)=I:=QT (by omega);have q1:decide ((s.size:Int)<=(a:Int))=I:=QT (by omega);have ac:a<s.size:=by omega
  have a1:=xQ ac;obtain⟨c,hc⟩:∃ c,lE s a=c:=⟨_,rfl⟩
  have a9:c<256:=hc ▸ CI s a;rw[hc] at a1;have ak:0<=(s[a].toNat:Int)/\(s[a].toNat:Int)<=255:=by omega
  by_cases hc17:c<=17
  case neg=>
   have HD:=fh (wM (s:=s) (a:=(a:Int)) (fun h=>by rw[Ra,hc] at h;exact hc17 h.2.2.1));have HZ:=fh (show zL (s[a].toNat:Int)=0 from by rw[<-a1,yV,QZ (by simp[fT];omega)]);obtain⟨n,sg,hw⟩:∃ n sg,iv (s[a].toNat:Int)=(n,sg):=⟨_,_,rfl⟩
   have ag:n<=4:=by have:=rr (s[a].toNat:Int);rw[hw] at this;exact this
   have HW:=fh hw;clear hw;exact tZ
  obtain⟨n,sg,hw⟩:∃ n sg,iv (c:Int)=(n,sg):=⟨_,_,rfl⟩
  have a3:=zw (c:Int);rw[hw] at a3;have ag:n<=4:=by have:=rr (c:Int);rw[hw] at this;exact this
  have HZ:=fh (show zL (s[a].toNat:Int)=(n:Int)+1 from by rw[<-a1,yV,Q5 (pU (by omega) (by omega)),hw]);have HW:=fh (show iv (s[a].toNat:Int)=(n,sg) from by rw[<-a1];exact hw);by_cases hfit:a+1+n<=s.size
  case neg=>
   have HD:=fh (wM (s:=s) (a:=(a:Int)) (fun h=>by rw[Ra,hc,hw] at h;exact hfit h.2.2.2));have aa:((n:Int)+1 == 0)=I:=by simp;omega
   have ab:decide ((s.size:Int)<(a:Int)+1+(n:Int))=M:=QY (by omega);clear hw hc a1;exact tZ
  have HD:=fh (Cw ac hc hc17 hw hfit);have aa:((n:Int)+1 == 0)=I:=by simp;omega
  have ab:decide ((s.size:Int)<(a:Int)+1+(n:Int))=I:=QT (by omega);clear hw hc;go_enter func135,ntmps135
  go_wp2_with(first
   | (go_at_call 167;(with_reducible refine(zfT _ _).mono ?_);rw[HZ.out];rintro e w1 ⟨rfl,rfl⟩)
   | (go_at_call 180;(with_reducible refine(zdY _ _).mono ?_);rw[HW.out];rintro e w1 ⟨rfl,rfl⟩))
  have hG:ft w ((w.alloc (F #[J C 0,J C 0] 142)).alloc (F #[J C (s[a].toNat:Int),J C 0] 142)):=gG;have er:((w.alloc (F #[J C 0,J C 0] 142)).alloc (F #[J C (s[a].toNat:Int),J C 0] 142)).heap[w.heap.size]?=Z (F #[J C 0,J C 0] 142 (0,0)):=zj (QO w _) gF
  have ex:((w.alloc (F #[J C 0,J C 0] 142)).alloc (F #[J C (s[a].toNat:Int),J C 0] 142)).heap[w.heap.size+1]?=Z (F #[J C (s[a].toNat:Int),J C 0] 142 (0,0)):=by
   exact uO
  obtain⟨g,hg⟩:∃ g,w.heap.size=g:=⟨_,rfl⟩
  rw[hg] at er ex |-;generalize ((w.alloc _).alloc _)=Y at hG er ex |-;go_loopw [10] (fun x wr=>∃(j:Nat),x=J C j/\j<=n/\Hid (wr.heap[g+1]?=Z (F #[J C (s[a].toNat:Int),J C (nt s (a+1) j:Nat)] 142 (0,0)))/\Hid (wr.heap[g]?=Z (F #[J C 0,J C 0] 142 (0,0)))/\Hid (ft w wr)) (fun x _=>n-(Ry x).toNat)
  case atStart=>exact⟨0,rfl,by omega,fh ex,fh er,fh hG⟩
  case round=>
   clear hG er ex;obtain⟨j,rfl,hj,hx,hr,hG⟩:=hrel;obtain⟨x0,x1,an,ao,xl⟩:=kI hx.out;by_cases hjn:j<n
   ·have af:a+1+j<s.size:=by omega
    have hb:=xQ af;have ae:0<=(s[a+1+j].toNat:Int)/\(s[a+1+j].toNat:Int)<=255:=by have:=s[a+1+j].toNat_lt;omega
    have hul:=sM s (a+1) j;have hor:=Ma (m:=nt s (a+1) j) (j:=j) (b:=s[a+1+j].toNat) (by omega) (by omega) hul;exact tP
   ·obtain rfl:j=n:=by omega
    have hul:=sM s (a+1) j;obtain⟨u,hu⟩:∃ u,nt s (a+1) j=u:=⟨_,rfl⟩
    rw[hu] at hul x1 HD;have h0:=hr.out;have a8:=hx.out;rw[hu] at a8;clear hx hr;obtain⟨r0,r1,al,am,rl⟩:=kI h0;have a0:(sg=M/\2 ^ (8*j-1)<=u)∨¬ (sg=M/\2 ^ (8*j-1)<=u):=Classical.em _;clear hu HZ HW hfit aa ab;rcases a0 with a0 | a0
    ·have a4:jh s (a:Int)=⟨(c:Int),(u:Int)-2 ^ (8*j),j+1,M⟩:=by rw[HD.out];unfold qG;rw[Q5 a0]
     have HQ:=fh a4;obtain⟨rfl,a0⟩:=a0;clear a4 HD;simp only[SM,Uf,TO,and_false,SH,false_or] at a3;rcases a3 with rfl | rfl
     ·skip
      have a5:(2147483648:Int)<=(u:Int):=by simp at a0;omega
      have a7:(u:Int)<4294967296:=by simp at hul;omega
      have ah:QP C ((u:Int)-4294967296)=(u:Int)-4294967296:=iw;clear hul a0;go_wp2_with(fail);go_region;go_wp2_with(fail);go_region;go_wp2_with(fail);have hk:=ym a8 (J C ((u:Int)-4294967296));have h1:=(hk.2.block g (by omega) (by simp)).trans h0;have h2:=rD h1 (J C (s[a].toNat:Int)) (J C ((u:Int)-4294967296));have hz:=kI h2.1;refine QU (v:=.tuple #[.agg #[J C (s[a].toNat:Int),J C ((u:Int)-4294967296)],J C ((1+4:Nat):Int),H M]) (by simp[Rd,results135,go_sem,hz,rl]) rfl ?_;exact pw (q:=⟨(s[a].toNat:Int),(u:Int)-4294967296,1+4,M⟩) (by rw[HQ.out,a1];try (first | rfl | rw[TL])) ((h2.2.fx (hk.2.fx hG.out (fun b hb=>by simp at hb;omega)) (fun b hb=>by simp at hb;omega)).trans gF)
     ·skip
      have a5:(32768:Int)<=(u:Int):=by simp at a0;omega
      have a7:(u:Int)<65536:=by simp at hul;omega
      have ah:QP C ((u:Int)-65536)=(u:Int)-65536:=iw;clear hul a0;go_wp2_with(fail);go_region;go_wp2_with(fail);go_region;go_wp2_with(fail);have hk:=ym a8 (J C ((u:Int)-65536));have h1:=(hk.2.block g (by omega) (by simp)).trans h0;have h2:=rD h1 (J C (s[a].toNat:Int)) (J C ((u:Int)-65536));have hz:=kI h2.1;refine QU (v:=.tuple #[.agg #[J C (s[a].toNat:Int),J C ((u:Int)-65536)],J C ((1+2:Nat):Int),H M]) (by simp[Rd,results135,go_sem,hz,rl]) rfl ?_;exact pw (q:=⟨(s[a].toNat:Int),(u:Int)-65536,1+2,M⟩) (by rw[HQ.out,a1];try (first | rfl | rw[TL])) ((h2.2.fx (hk.2.fx hG.out (fun b hb=>by simp at hb;omega)) (fun b hb=>by simp at hb;omega)).trans gF)
    ·have a4:jh s (a:Int)=⟨(c:Int),(u:Int),j+1,M⟩:=by rw[HD.out];unfold qG;rw[QZ a0]
     have HQ:=fh a4;clear a4 HD;cases sg with
     | false=>
      clear a0 a3 hul;go_wp2_with(fail);go_region;go_wp2_with(fail);have h2:=rD h0 (J C (s[a].toNat:Int)) (J C ((u:Int)));have hz:=kI h2.1;refine QU (v:=.tuple #[.agg #[J C (s[a].toNat:Int),J C ((u:Int))],J C ((1+j:Nat):Int),H M]) (by simp[Rd,results135,go_sem,hz,rl]) rfl ?_;exact pw (q:=⟨(s[a].toNat:Int),(u:Int),1+j,M⟩) (by rw[HQ.out,a1];try (first | rfl | rw[TL])) ((h2.2.fx hG.out (fun b hb=>by simp at hb;omega)).trans gF)
     | true=>
      have a2:¬ 2 ^ (8*j-1)<=u:=fun h=>a0 ⟨rfl,h⟩;simp only[SM,Uf,TO,and_false,SH,false_or] at a3;rcases a3 with rfl | rfl
      ·have a5:decide ((2147483648:Int)<=(u:Int))=I:=QT (by simp at a2;omega)
       clear a0 a2 hul;go_wp2_with(fail);go_region;go_wp2_with(fail);have h2:=rD h0 (J C (s[a].toNat:Int)) (J C ((u:Int)));have hz:=kI h2.1;refine QU (v:=.tuple #[.agg #[J C (s[a].toNat:Int),J C ((u:Int))],J C ((1+4:Nat):Int),H M]) (by simp[Rd,results135,go_sem,hz,rl]) rfl ?_;exact pw (q:=⟨(s[a].toNat:Int),(u:Int),1+4,M⟩) (by rw[HQ.out,a1];try (first | rfl | rw[TL])) ((h2.2.fx hG.out (fun b hb=>by simp at hb;omega)).trans gF)
      ·have a5:decide ((32768:Int)<=(u:Int))=I:=QT (by simp at a2;omega)
       clear a0 a2 hul;go_wp2_with(fail);go_region;go_wp2_with(fail);have h2:=rD h0 (J C (s[a].toNat:Int)) (J C ((u:Int)));have hz:=kI h2.1;refine QU (v:=.tuple #[.agg #[J C (s[a].toNat:Int),J C ((u:Int))],J C ((1+2:Nat):Int),H M]) (by simp[Rd,results135,go_sem,hz,rl]) rfl ?_;exact pw (q:=⟨(s[a].toNat:Int),(u:Int),1+2,M⟩) (by rw[HQ.out,a1];try (first | rfl | rw[TL])) ((h2.2.fx hG.out (fun b hb=>by simp at hb;omega)).trans gF)
def Iu (b:Bool)(w:U)(e:Ending)(w':U):Prop:=∃ A n c,e=.returned (.tuple #[G A n c,H b])/\ft w w'
theorem uh {g:Prop} (f:g:=by
  go_roundw
  case measure=>exact gH
  case rel=>
   refine⟨a+n,l++[⟨co,ar⟩],A7,c7,S7,by rw[QR];rfl,by go_num,by omega,by rw[QR,RD];omega,by rw[QR];exact hH7,fun b hb=>?_,HST,fh (hon.fx (hG.out.trans gF) hS)⟩
   rcases hS7 b hb with h | h
   ·exact hS b h
   ·have:=hG.out.size
    simp at h
    omega):g:=f
theorem uV {g:Prop} (f:g:=by
  have HQ:=fh (show kS s 0=M from by rw[<-hd.out];exact DU (Q8 _))
  go_wp2_with(fail)
  go_ret2
  exact⟨_,_,_,by rw[HQ.out];rfl,hG.out⟩):g:=f
theorem zwi (s:N)(w:U)(hs:s.size<=1099511627776):Rh prog 144 #[V s] w (Iu (kS s 0) w):=by
 go_enter func144,ntmps144;go_wp2_with(fail);have en:=QO w (F #[] 142);go_loopw [4,5] (fun x y wr=>∃(a:Nat) (l:Q lY) (A:X Ri) (c:Nat) (S:Q Nat),x=G A l.length c/\y=J C a/\a<=s.size/\l.length<=a/\Has (rR.sl 142) wr [G A l.length c] l S/\(∀ b∈S,w.heap.size<=b)/\Hid (kS s a=kS s 0)/\Hid (ft w wr)) (fun _ y _=>s.size-(Ry y).toNat)
 case atStart=>exact⟨0,[],_,0,[w.heap.size],rfl,rfl,QX _,Q8 _,Has.emp rR en,by simp,fh rfl,fh gG⟩
 case round=>
  clear en;obtain⟨a,l,A,c,S,rfl,rfl,ha,hl,hH,hS,hd,hG⟩:=hrel;by_cases hlt:a<s.size
  ·have a0:fD (a:Int):=⟨by omega,by omega⟩
   obtain⟨r,hr⟩:∃ r,jh s (a:Int)=r:=⟨_,rfl⟩
   have hk:=wN hr;have a1:=Cv hr;cases hrk:r.ok with
   | false=>
    have HQ:=fh (show kS s 0=I from by rw[<-hd.out];exact Gp hlt (by rw[hr];exact hrk));have hz:=E6 hr hrk;subst hz;have HR:=fh hr;clear hr hrk hk;go_wp2_with(go_at_call 130;(with_reducible refine(zgc s (a:Int) _ hs a0).mono ?_);rw[HR.out];rintro e w4 ⟨rfl,a3,d4,rfl⟩);go_ret2;exact⟨_,_,_,by rw[HQ.out];rfl,hG.out.trans gF⟩
   | true=>
    obtain⟨k0,k1,k2,k3,k4,k5⟩:=hk hrk;obtain⟨co,ar,n,a4⟩:=r;simp only at hrk k0 k1 k2 k3 k4 k5 a1;subst hrk;have HST:=fh (show kS s (a+n)=kS s 0 from by rw[<-hd.out,Ce hlt (by rw[hr]),hr]);have HR:=fh hr;clear hr hk;have a2:rR.R w 0 [J C co,J C ar] ⟨co,ar⟩:=Ht (x:=⟨co,ar⟩) ⟨by simp only;omega,by simp only;omega⟩ ⟨by simp only;omega,by simp only;omega⟩
    go_wp2_with(first
     | (go_at_call 130;(with_reducible refine(zgc s (a:Int) _ hs a0).mono ?_);rw[HR.out];rintro e w4 ⟨rfl,a3,d4,rfl⟩)
     | (refine zA (L:=l.length+1) (y:=(⟨co,ar⟩:lY)) rfl (.tmp 23) (.tmp 25) II Ir (S:=S) (hH.fx gF) (ec:=[J C co,J C ar]) (W1:=w) (B:=0) a2 rfl rfl rfl (by intro j u hu;simpa[go_sem] using hu) rfl (by omega) (by omega) ?_;intro A7 c7 W7 S7 hon hH7 hS7))
    exact uh
  ·obtain rfl:a=s.size:=by omega
   exact uV
theorem zwj (s:N)(w:U)(hs:s.size<=1099511627776):Rh prog 134 #[V s] w (Iu (kS s 0) w):=by
 go_enter func134,ntmps134;go_wp2_with(fail);have en:=QO w (F #[] 142);go_loopw [4,5] (fun x y wr=>∃(a:Nat) (l:Q lY) (A:X Ri) (c:Nat) (S:Q Nat),x=G A l.length c/\y=J C a/\a<=s.size/\l.length<=a/\Has (rR.sl 142) wr [G A l.length c] l S/\(∀ b∈S,w.heap.size<=b)/\Hid (kS s a=kS s 0)/\Hid (ft w wr)) (fun _ y _=>s.size-(Ry y).toNat)
 case atStart=>exact⟨0,[],_,0,[w.heap.size],rfl,rfl,QX _,Q8 _,Has.emp rR en,by simp,fh rfl,fh gG⟩
 case round=>
  clear en;obtain⟨a,l,A,c,S,rfl,rfl,ha,hl,hH,hS,hd,hG⟩:=hrel;by_cases hlt:a<s.size
  ·have a0:fD (a:Int):=⟨by omega,by omega⟩
   obtain⟨r,hr⟩:∃ r,jh s (a:Int)=r:=⟨_,rfl⟩
   have hk:=wN hr;have a1:=Cv hr;cases hrk:r.ok with
   | false=>
    have HQ:=fh (show kS s 0=I from by rw[<-hd.out];exact Gp hlt (by rw[hr];exact hrk));have hz:=E6 hr hrk;subst hz;have HR:=fh hr;clear hr hrk hk;go_wp2_with(go_at_call 135;(with_reducible refine(zkI s (a:Int) _ hs a0).mono ?_);rw[HR.out];rintro e w4 ⟨rfl,a3,d4,rfl⟩);go_ret2;exact⟨_,_,_,by rw[HQ.out];rfl,hG.out.trans gF⟩
   | true=>
    obtain⟨k0,k1,k2,k3,k4,k5⟩:=hk hrk;obtain⟨co,ar,n,a4⟩:=r;simp only at hrk k0 k1 k2 k3 k4 k5 a1;subst hrk;have HST:=fh (show kS s (a+n)=kS s 0 from by rw[<-hd.out,Ce hlt (by rw[hr]),hr]);have HR:=fh hr;clear hr hk;have a2:rR.R w 0 [J C co,J C ar] ⟨co,ar⟩:=Ht (x:=⟨co,ar⟩) ⟨by simp only;omega,by simp only;omega⟩ ⟨by simp only;omega,by simp only;omega⟩
    go_wp2_with(first
     | (go_at_call 135;(with_reducible refine(zkI s (a:Int) _ hs a0).mono ?_);rw[HR.out];rintro e w4 ⟨rfl,a3,d4,rfl⟩)
     | (refine zA (L:=l.length+1) (y:=(⟨co,ar⟩:lY)) rfl (.tmp 24) (.tmp 26) II Ir (S:=S) (hH.fx gF) (ec:=[J C co,J C ar]) (W1:=w) (B:=0) a2 rfl rfl rfl (by intro j u hu;simpa[go_sem] using hu) rfl (by omega) (by omega) ?_;intro A7 c7 W7 S7 hon hH7 hS7))
    exact uh
  ·obtain rfl:a=s.size:=by omega
   exact uV
theorem Qc {w:U} {B:Nat} {A:X Ri} {n c:Nat} {xs:Q fP} (h:(oT.sl e).R w B [G A n c] xs){k:Nat}(hk:k<xs.length) :
  ∃ g off x A0 c0,A=Z ⟨g,off,D⟩/\g<B/\xs[k]?=Z x/\QL w ⟨g,off+k*7,D⟩=Z (J C x.Op.Code)/\QL w ⟨g,off+k*7+1,D⟩=Z (J C x.Op.Arg)/\QL w ⟨g,off+k*7+2,D⟩=Z (J C x.fH)/\QL w ⟨g,off+k*7+3,D⟩=Z (H x.Start)/\QL w ⟨g,off+k*7+4,D⟩=Z (G A0 x.fB.length c0)/\QL w ⟨g,off+k*7+5,D⟩=Z (J C x.fE)/\QL w ⟨g,off+k*7+6,D⟩=Z (H x.fF)/\fD x.Op.Code/\fD x.Op.Arg/\fD x.fH/\(zr.sl 3).R w B [G A0 x.fB.length c0] x.fB/\fD x.fE:=by
 obtain⟨g,off,x,ec,h1,hB,h2,h3,h4⟩:=nP h hk;obtain⟨A0,c0,rfl,hf⟩:=OV h3;exact⟨g,off,x,A0,c0,h1,hB,h2,h4 0 _ rfl,h4 1 _ rfl,h4 2 _ rfl,h4 3 _ rfl,h4 4 _ rfl,h4 5 _ rfl,h4 6 _ rfl,hf⟩
theorem JO:(prog.info? 227).map (fun i=>(i.zero,i.size,i.bytes))=Z (Z (.agg #[J C 0,J C 0,J C 0,H I,G D 0 0,J C 0,H I]),7,72):=by kernel_rfl
theorem Qe:gZ prog 232 227 oT 72:=by
 obtain⟨i0,hi,a0,a1,a2⟩:=SJ JO;exact⟨underlying232,⟨i0,_,hi,a0,a1,a2,rfl⟩,by decide⟩
end Go.Proofs.YthgbglbaemelhaaGreat
