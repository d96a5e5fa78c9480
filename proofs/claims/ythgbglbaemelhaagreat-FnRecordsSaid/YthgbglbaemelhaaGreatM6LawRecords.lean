/-
  PART.
-/
import Derived.Test.YthgbglbaemelhaaGreatM4LawRecords
import Derived.Deep.AppendSrc
import Derived.Deep.MidRow
import Derived.Laws.IdiomStrings
set_option linter.unusedVariables false
set_option linter.unusedSimpArgs false
set_option maxRecDepth 100000
set_option maxHeartbeats 8000000
namespace Go.Proofs.YthgbglbaemelhaaGreat
open Value renaming slice->J,int->C,bool->X,string->Q
open IntKind renaming i64->Z
open Option renaming none->I,some->F,getD_some->WM,map_some->Xp
open Obj renaming cells->U
open Bool renaming false->M,true->H
open Go renaming World->V,Calls->VK,Addr->VQ,TypeId->Wl,byteCells->Yh,byteCells_length->Yx,Ending->Z9,yielded->Xb
open World renaming cell?->Vg,frozen?->VE,setCell->Wc,alloc->WJ
open _root_.Int renaming toNat_natCast->Vy
open List renaming length_cons->VC,replicate->VP,getElem?_cons_zero->VU,length_nil->VZ,length_singleton->Wi,nil_append->Wo,getElem?_cons_succ->Ww,cons_append->Xl,sum_cons->Xz,foldl_cons->XC
open _root_.Array renaming length_toList->Wg
open RowKit renaming intOf->Wj,wrap64->Xr
open _root_.Nat renaming add_zero->Wk,pow_succ->Yw,mul_zero->YN
open Builtin renaming append_->WS
open UInt8 renaming ofNat->WT
open Region renaming wanted->V6,ready->Wv,noSelect->XV,free->YI
open Tryz
open Go.RowKit
variable {A A0:N VQ}{B Ve a c c0 e f i j k lo m n q z:Nat}{Vd D2 ft fs l fI:D Int}{L iM:D fX}{W W' W0 w:V}{acc:D gL}{b:gP}{cs:D Value}{d d0 image line v fO y:Int}{p:D fB}{r:jk}{rest xs:D UInt8}{s t:G}{x:fB}
structure ll where
 Pc:Int
 Sp:Int
 Fp:Int
 gK:D Int
 deriving DecidableEq
def tJ:Ty ll:=(zv.prod (zv.prod (zv.prod (zv.sl 3)))).via fun x=>(x.Pc,x.Sp,x.Fp,x.gK)
theorem TP {x:ll} (h:tJ.R w B cs x):∃ A0 c0,cs = [C Z x.Pc,C Z x.Sp,C Z x.Fp,J A0 x.gK.length c0]/\fQ x.Pc/\fQ x.Sp/\fQ x.Fp/\(zv.sl 3).R w B [J A0 x.gK.length c0] x.gK:=by
 obtain⟨_,_,rfl,⟨rfl,a2,a5⟩,⟨_,_,rfl,⟨rfl,a3,a6⟩,⟨_,_,rfl,⟨rfl,a1,a4⟩,a0⟩⟩⟩:=h;obtain⟨A0,c0,rfl,_⟩:=id a0;exact⟨A0,c0,rfl,⟨a2,a5⟩,⟨a3,a6⟩,⟨a1,a4⟩,a0⟩
structure iy where
 ij:Int
 gg:ll
 deriving DecidableEq
def qj:Ty iy:=(zv.prod tJ).via fun x=>(x.ij,x.gg)
theorem QE {x:iy} (h:qj.R w B cs x):∃ A0 c0,cs = [C Z x.ij,C Z x.gg.Pc,C Z x.gg.Sp,C Z x.gg.Fp,J A0 x.gg.gK.length c0]/\fQ x.ij/\fQ x.gg.Pc/\fQ x.gg.Sp/\fQ x.gg.Fp/\(zv.sl 3).R w B [J A0 x.gg.gK.length c0] x.gg.gK:=by
 obtain⟨_,_,rfl,⟨rfl,a7,a8⟩,⟨_,_,rfl,⟨rfl,a2,a5⟩,⟨_,_,rfl,⟨rfl,a3,a6⟩,⟨_,_,rfl,⟨rfl,a1,a4⟩,a0⟩⟩⟩⟩:=h;obtain⟨A0,c0,rfl,_⟩:=id a0;exact⟨A0,c0,rfl,⟨a7,a8⟩,⟨a2,a5⟩,⟨a3,a6⟩,⟨a1,a4⟩,a0⟩
def K5 (x:ll)(w:V)(r:Z9)(w':V):Prop:=∃ A0 c0,r=.returned (.agg #[C Z x.Pc,C Z x.Sp,C Z x.Fp,J A0 x.gK.length c0])/\gH tJ w w' [C Z x.Pc,C Z x.Sp,C Z x.Fp,J A0 x.gK.length c0] x/\fy w w'
theorem PQ {x:ll} {S3:D Nat} (h0:fQ x.Pc)(h1:fQ x.Sp)(h2:fQ x.Fp)(h3:(zv.sl 3).O w [J A0 x.gK.length c0] x.gK S3):tJ.O w [C Z x.Pc,C Z x.Sp,C Z x.Fp,J A0 x.gK.length c0] x (S3):=by
 have h:tJ.O w [C Z x.Pc,C Z x.Sp,C Z x.Fp,J A0 x.gK.length c0] x ([]++([]++([]++S3))):=⟨[C Z x.Pc],[C Z x.Sp,C Z x.Fp,J A0 x.gK.length c0],[],([]++([]++S3)),rfl,rfl,⟨rfl,h0.1,h0.2,rfl⟩,⟨[C Z x.Sp],[C Z x.Fp,J A0 x.gK.length c0],[],([]++S3),rfl,rfl,⟨rfl,h1.1,h1.2,rfl⟩,⟨[C Z x.Fp],[J A0 x.gK.length c0],[],S3,rfl,rfl,⟨rfl,h2.1,h2.2,rfl⟩,h3⟩⟩⟩
 simpa using h
theorem CD {x:ll} {u3:V} {m3:Nat} (h0:fQ x.Pc)(h1:fQ x.Sp)(h2:fQ x.Fp)(h3:kN (zv.sl 3) u3 m3 W [J A0 x.gK.length c0] x.gK)(hw3:w.heap.size<=u3.heap.size):gH tJ w W [C Z x.Pc,C Z x.Sp,C Z x.Fp,J A0 x.gK.length c0] x:=by
 obtain⟨S3,a2,a1,a0⟩:=h3;exact⟨_,PQ h0 h1 h2 a2,a1,fun b hb=>(by have:=a0 b hb;omega)⟩
theorem Nw {x:iy} {S1:D Nat} (h0:fQ x.ij)(h1:tJ.O w [C Z x.gg.Pc,C Z x.gg.Sp,C Z x.gg.Fp,J A0 x.gg.gK.length c0] x.gg S1):qj.O w [C Z x.ij,C Z x.gg.Pc,C Z x.gg.Sp,C Z x.gg.Fp,J A0 x.gg.gK.length c0] x (S1):=by
 have h:qj.O w [C Z x.ij,C Z x.gg.Pc,C Z x.gg.Sp,C Z x.gg.Fp,J A0 x.gg.gK.length c0] x ([]++S1):=⟨[C Z x.ij],[C Z x.gg.Pc,C Z x.gg.Sp,C Z x.gg.Fp,J A0 x.gg.gK.length c0],[],S1,rfl,rfl,⟨rfl,h0.1,h0.2,rfl⟩,h1⟩
 simpa using h
theorem Cp {x:iy} {u1:V} {m1:Nat} (h0:fQ x.ij)(h1:kN tJ u1 m1 W [C Z x.gg.Pc,C Z x.gg.Sp,C Z x.gg.Fp,J A0 x.gg.gK.length c0] x.gg)(hw1:w.heap.size<=u1.heap.size):gH qj w W [C Z x.ij,C Z x.gg.Pc,C Z x.gg.Sp,C Z x.gg.Fp,J A0 x.gg.gK.length c0] x:=by
 obtain⟨S1,a2,a1,a0⟩:=h1;exact⟨_,Nw h0 a2,a1,fun b hb=>(by have:=a0 b hb;omega)⟩
theorem Fj {α:Type} {xs:D α} {f:α->Bool} {x:α} (h:xs[j]?=F x)(ha:(xs.take j).all f=H)(hf:f x=H):(xs.take (j+1)).all f=H:=by
 rw[yB h,XU,ha];simp[hf]
theorem Hp {α:Type} {xs:D α} {f:α->Bool} {x:α} (h:xs[j]?=F x)(hf:f x=M):xs.all f=M:=by
 rw[List.all_eq_false];exact⟨x,Vx h,by simp[hf]⟩
def zV (n:Int):Int:=if gE n (-549755813888) 549755813887 then (if n<0 then -2*n-1 else 2*n) else -1
theorem vJ (n:Int):decide (zV n<0) = !gE n (-549755813888) 549755813887:=by
 unfold zV;cases h:gE n (-549755813888) 549755813887
 ·simp
 ·rw[Vs rfl];split <;> simp <;> omega
theorem xF {g:Prop} (f:g:=by
  go_enter func67,ntmps67
  go_wp2_with(first
   | (go_at_call 38;refine(lf _ _ _ _).mono ?_;rintro e w1 ⟨rfl,rfl⟩))
  go_ret
  exact⟨nB HT.out.symm,rfl⟩):g:=f
theorem yt (n:Int)(w:V):VK prog 67 #[C Z n] w fun e w'=>e=.returned (C Z (zV n))/\w=w':=by
 cases hb:gE n (-549755813888) 549755813887
 ·have HS:=fk (show zV n = -1 from by simp[zV,hb])
  go_enter func67,ntmps67
  go_wp2_with(first
   | (go_at_call 38;refine(lf _ _ _ _).mono ?_;rintro e w1 ⟨rfl,rfl⟩))
  go_ret;exact⟨nB HS.out.symm,rfl⟩
 ·obtain⟨a0,a1⟩:=zr.1 hb
  have HS:=fk (show zV n=(if n<0 then -2*n-1 else 2*n) from by simp[zV,hb]);by_cases hn:n<0
  ·have HT:=fk (HS.out.trans (Vs hn))
   exact xF
  ·have HT:=fk (HS.out.trans (Vo hn))
   exact xF
theorem xE {g:Prop} (f:g:=by
  go_enter func90,ntmps90
  go_wp2_with(first
   | (go_at_call 43;refine(iU _ _ _ _).mono ?_;rintro e w1 ⟨rfl,rfl⟩))
  go_ret
  exact⟨nB HT.out.symm,rfl⟩):g:=f
theorem EY (n:Int)(w:V):VK prog 90 #[C Z n] w fun e w'=>e=.returned (C Z (zV n))/\w=w':=by
 cases hb:gE n (-549755813888) 549755813887
 ·have HS:=fk (show zV n = -1 from by simp[zV,hb])
  go_enter func90,ntmps90
  go_wp2_with(first
   | (go_at_call 43;refine(iU _ _ _ _).mono ?_;rintro e w1 ⟨rfl,rfl⟩))
  go_ret;exact⟨nB HS.out.symm,rfl⟩
 ·obtain⟨a0,a1⟩:=zr.1 hb
  have HS:=fk (show zV n=(if n<0 then -2*n-1 else 2*n) from by simp[zV,hb]);by_cases hn:n<0
  ·have HT:=fk (HS.out.trans (Vs hn))
   exact xE
  ·have HT:=fk (HS.out.trans (Vo hn))
   exact xE
def ut (v:ll):Bool:=gE v.Sp 0 1200 && decide ((v.gK.length:Int)<=1200-v.Sp)
theorem xG {g:Prop} (f:g:=by
  go_enter func66,ntmps66
  go_wp2_with(first
   | (go_at_call 38;refine(lf _ _ _ _).mono ?_;rintro e w1 ⟨rfl,rfl⟩))
  go_ret
  exact⟨zp HS.out.symm,gG⟩):g:=f
theorem Bw (v:ll)(A:N VQ)(c:Nat)(w:V)(_:v.gK.length<=1099511627776):VK prog 66 #[.agg #[C Z v.Pc,C Z v.Sp,C Z v.Fp,J A v.gK.length c]] w fun e w'=>e=.returned (X (ut v))/\fy w w':=by
 cases hb:gE v.Sp 0 1200
 ·have HS:=fk (show ut v=M from by simp[ut,hb])
  exact xG
 ·obtain⟨a0,a1⟩:=zr.1 hb
  have HS:=fk (show ut v=decide ((v.gK.length:Int)<=1200-v.Sp) from by simp[ut,hb]);exact xG
def mY (x:iy):Bool:=gE x.ij 0 2 && (ut x.gg && (gE x.gg.Pc 0 2000000 && (gE x.gg.Fp (-549755813888) 549755813887 && x.gg.gK.all fun n=>gE n (-549755813888) 549755813887)))
theorem rM {g:Prop} (f:g:=by
  go_enter func31,ntmps31
  go_wp2_with(first
   | (go_at_call 38;refine(lf _ _ _ _).mono ?_;rintro e w1 ⟨rfl,rfl⟩)
   | (go_at_call 66;refine(Bw ⟨Pc,Sp,Fp,rs⟩ _ _ _ hs).mono ?_;rintro e w1 ⟨rfl,os,d,rfl⟩)
   | (go_at_call 67;refine(yt _ _).mono ?_;rintro e w1 ⟨rfl,rfl⟩))
  go_ret
  exact⟨zp HS.out.symm,gG⟩):g:=f
theorem zfY {x:iy} (h1:(zv.sl 3).R w w.heap.size [J A0 x.gg.gK.length c0] x.gg.gK)(hs:x.gg.gK.length<=1099511627776) :
  VK prog 31 #[.agg #[C Z x.ij,C Z x.gg.Pc,C Z x.gg.Sp,C Z x.gg.Fp,J A0 x.gg.gK.length c0]] w fun e w'=>e=.returned (X (mY x))/\fy w w':=by
 obtain⟨th,v⟩:=x;obtain⟨Pc,Sp,Fp,rs⟩:=v;simp only at h1 hs |-;cases b1:gE th 0 2
 ·have HS:=fk (show mY ⟨th,⟨Pc,Sp,Fp,rs⟩⟩=M from by simp[mY,b1])
  exact rM
 cases b2:ut ⟨Pc,Sp,Fp,rs⟩
 ·have HS:=fk (show mY ⟨th,⟨Pc,Sp,Fp,rs⟩⟩=M from by simp[mY,b2])
  exact rM
 cases b3:gE Pc 0 2000000
 ·have HS:=fk (show mY ⟨th,⟨Pc,Sp,Fp,rs⟩⟩=M from by simp[mY,b3])
  exact rM
 cases b4:gE Fp (-549755813888) 549755813887
 ·have HS:=fk (show mY ⟨th,⟨Pc,Sp,Fp,rs⟩⟩=M from by simp[mY,b4])
  have b5:decide (zV Fp<0)=H:=by rw[vJ,b4];rfl
  exact rM
 have HR:Hid (mY ⟨th,⟨Pc,Sp,Fp,rs⟩⟩=rs.all fun n=>gE n (-549755813888) 549755813887):=by
  show mY _=_;simp[mY,b1,b2,b3,b4]
 have b5:decide (zV Fp<0)=M:=by rw[vJ,b4];rfl
 go_enter func31,ntmps31
 go_wp2_with(first
   | (go_at_call 38;refine(lf _ _ _ _).mono ?_;rintro e w1 ⟨rfl,rfl⟩)
   | (go_at_call 66;refine(Bw ⟨Pc,Sp,Fp,rs⟩ _ _ _ hs).mono ?_;rintro e w1 ⟨rfl,os,d,rfl⟩)
   | (go_at_call 67;refine(yt _ _).mono ?_;rintro e w1 ⟨rfl,rfl⟩))
 obtain⟨_,_,hv,h2,h3⟩:=mQ h1;injection hv with hA hn hc
 subst hA hc;clear hn;go_loop [33] (fun i=>∃(j:Nat),j<=rs.length/\i=C Z j/\Hid ((rs.take j).all (fun n=>gE n (-549755813888) 549755813887)=H)) (fun i=>rs.length-(Wj i).toNat)
 case atStart=>exact⟨0,Vu _,rfl,rfl⟩
 case round=>
  obtain⟨j,hj,rfl,ha⟩:=hrel;by_cases hlt:j<rs.length
  ·obtain⟨g,a4,x,rfl,a0,a1,bx⟩:=ma h1 hlt
   have a2:=Wf _ _ a1;simp only at a2;have HX:=fk a0;have H1:=fk h1;clear a0 h1;cases hb:gE x (-549755813888) 549755813887
   ·have HF:=fk (Hp (f:=fun n:Int=>gE n (-549755813888) 549755813887) HX.out hb)
    have b6:decide (zV x<0)=H:=by rw[vJ,hb];rfl
    go_wp2_with(first
   | (go_at_call 38;refine(lf _ _ _ _).mono ?_;rintro e w1 ⟨rfl,rfl⟩)
   | (go_at_call 66;refine(Bw ⟨Pc,Sp,Fp,rs⟩ _ _ _ hs).mono ?_;rintro e w1 ⟨rfl,os,d,rfl⟩)
   | (go_at_call 67;refine(yt _ _).mono ?_;rintro e w1 ⟨rfl,rfl⟩))
    go_ret
    exact⟨zp (HR.out.trans HF.out).symm,gG⟩
   ·have b6:decide (zV x<0)=M:=by rw[vJ,hb];rfl
    go_wp2_with(first
   | (go_at_call 38;refine(lf _ _ _ _).mono ?_;rintro e w1 ⟨rfl,rfl⟩)
   | (go_at_call 66;refine(Bw ⟨Pc,Sp,Fp,rs⟩ _ _ _ hs).mono ?_;rintro e w1 ⟨rfl,os,d,rfl⟩)
   | (go_at_call 67;refine(yt _ _).mono ?_;rintro e w1 ⟨rfl,rfl⟩))
    go_round
    exact⟨j+1,fh,io,Fj HX.out ha.out hb⟩
    exact iC
  ·have a3:j=rs.length:=fh
   subst a3;rw[WG] at ha
   go_wp2_with(first
   | (go_at_call 38;refine(lf _ _ _ _).mono ?_;rintro e w1 ⟨rfl,rfl⟩)
   | (go_at_call 66;refine(Bw ⟨Pc,Sp,Fp,rs⟩ _ _ _ hs).mono ?_;rintro e w1 ⟨rfl,os,d,rfl⟩)
   | (go_at_call 67;refine(yt _ _).mono ?_;rintro e w1 ⟨rfl,rfl⟩))
   go_ret;exact⟨zp (HR.out.trans ha.out).symm,gG⟩
def lM (lo:Nat)(W:V)(A:N VQ)(c:Nat)(xs:D UInt8):Prop:=∃ g,A=F ⟨g,0,I⟩/\lo<=g/\g<W.heap.size/\xs.length<=c/\
 (∀ j,j<c->(Vg W ⟨g,j,I⟩).isSome=H)/\(∀ j,j<c->VE W ⟨g,j,I⟩=M)/\∀(j:Nat) b,xs[j]?=F b->Vg W ⟨g,j,I⟩=F (C .u8 (b.toNat:Int))
theorem lM.fH (h:lM lo W A c xs)(hg:fy W W'):lM lo W' A c xs:=by
 obtain⟨g,rfl,h1,h2,h3,h4,h5,h6⟩:=h;have hc:∀ j,Vg W' ⟨g,j,I⟩=Vg W ⟨g,j,I⟩:=fun j=>YV (hg.block h2);have hf:∀ j,VE W' ⟨g,j,I⟩=VE W ⟨g,j,I⟩:=fun j=>World.frozen?_of_block (hg.block h2);exact⟨g,rfl,h1,Vn h2 hg.size,h3,fun j hj=>by rw[hc];exact h4 j hj,fun j hj=>by rw[hf];exact h5 j hj,fun j b hb=>by rw[hc];exact h6 j b hb⟩
theorem lM.read {e:Wl} (h:lM lo W A c xs)(hc:c<=9223372036854775807):(nV.sl e).R W W.heap.size [J A xs.length c] xs:=by
 obtain⟨g,rfl,h1,h2,h3,h4,h5,h6⟩:=h;refine⟨_,c,rfl,h3,hc,(fun h=>by cases h),fun _=>⟨g,0,rfl,h2,fun i x hx=>⟨_,rfl,fun j u hu=>?_⟩⟩⟩;cases j with
 | zero=>
  simp at hu;subst hu;have:=h6 i x hx;rw[show 0+i*nV.size+0=i from by show 0+i*1+0=i;omega];exact this
 | succ j=>simp at hu
theorem KV {g:Nat} {cur:Array Value} {e:Wl} {fr:Nat × Nat} (hg:W.heap[g]?=F (U cur e fr))(h1:lo<=g)(hc:cur.size=c)(hf:fr.2=0∨c<=fr.1)(hl:xs.length<=c)(hget:∀(j:Nat) b,xs[j]?=F b->cur[j]?=F (C .u8 (b.toNat:Int))) :
  lM lo W (F ⟨g,0,I⟩) c xs:=by
 refine⟨g,rfl,h1,(blt hg),hl,fun j hj=>?_,fun j hj=>?_,fun j b hb=>?_⟩
 ·rw[WC W g j cur e fr hg,X7 fh]
  rfl
 ·obtain⟨f1,f2⟩:=fr
  simp only[VE,hg];simp only[X6,WA];simp only at hf;omega
 ·rw[WC W g j cur e fr hg]
  exact hget j b hb
theorem GB (g:Nat):∀(vs:D Value)(o:Nat)(w:V),(w.setCells g o vs).heap.size=w.heap.size/\(w.setCells g o vs).tape=w.tape/\(w.setCells g o vs).os=w.os/\(w.setCells g o vs).output=w.output/\∀ k,k≠g->(w.setCells g o vs).heap[k]?=w.heap[k]?
 | [],_,_=>⟨rfl,rfl,rfl,rfl,fun _ _=>rfl⟩
 | v::r,o,w=>by
  obtain⟨h1,h2,h3,h4,h5⟩:=GB g r (o+1) (w.setCell ⟨g,o,I⟩ v);rw[World.setCells];exact⟨by rw[h1];simp[Wc],by rw[h2];rfl,by rw[h3];rfl,by rw[h4];rfl,fun k hk=>by rw[h5 k hk];exact YD w _ v k hk⟩
theorem To (W:V)(s:G):∃ c os d,(convert 9 22 (Q s)).run prog W=.ok (J (F ⟨W.heap.size,0,I⟩) s.size c) (fH W os d)/\lM W.heap.size (fH W os d) (F ⟨W.heap.size,0,I⟩) c s.data.toList/\(s.size<=140737488355328->c<=9223372036854775807):=by
 have h:=run_bytes_of_string (P:=prog) W 9 22 5 s underlying9 underlying22 underlying5;have a1:=grownCap_ge W s.size 0 5;have a2:=Zb W s.size 0 5;generalize hc:grownCap W s.size 0 5=c at h a1 a2;generalize hcur:bytesRow s c=cur at h
 have a3:cur.size=c:=by
  rw[<-hcur];unfold bytesRow;rw[Ze,Array.size_map,Array.size_replicate];have:s.data.size=s.size:=rfl;omega
 have a0:∀(j:Nat) b,s.data.toList[j]?=F b->cur[j]?=F (C .u8 (b.toNat:Int)):=by
  intro j b hb
  have hj:j<s.data.size:=by
   have:=(Vh.1 hb).1;simpa using this
  rw[<-hcur];unfold bytesRow;rw[XE (by simpa using hj),Array.getElem?_map];rw[<-Array.getElem?_toList,hb];rfl
 have hW:W.drew.alloc (U cur 5 (cur.size,cur.size+1))=fH W #[U cur 5 (cur.size,cur.size+1)] (W.drawn+1):=by
  unfold fH WJ World.drew;simp
 rw[hW] at h;refine⟨c,_,_,h,?_,fun h=>?_⟩
 ·rw[<-hW]
  exact KV (Vj W.drew _) (Vz _) a3 (.inr (by simp only;omega)) (by rw[Wg];exact a1) a0
 ·have:=a2 (by unfold maxLen;omega)
  unfold maxLen at this;omega
theorem MW {b:UInt8} (h:s.data.toList[j]?=F b):(Yh s)[j]?=F (C .u8 (b.toNat:Int)):=by
 unfold Yh;rw[Xw,h];rfl
theorem Nr {ty:Wl} (hn:n=xs.length)(h:lM W0.heap.size W A c xs)(hg:fy W0 W)(s:G)(hb:n+s.size<=140737488355328) :
  ∃ A' c' W',(WS #[22,9] ty #[J A n c,Q s]).run prog W=.ok (J A' (n+s.size) c') W'/\fy W0 W'/\lM W0.heap.size W' A' c' (xs++s.data.toList)/\c'<=max c 9223372036854775807:=by
 subst hn;obtain⟨g,rfl,h1,h2,h3,h4,h5,h6⟩:=h;obtain⟨i,z,hi,hz,a6,a9,aa⟩:=Do.qy
 have hs:∀ w,Src prog i.size 9 (Q s) s.size (Yh s) w:=fun w=>by
  rw[a6];exact Src.ofString w underlying9 s
 have a1:i.size=1:=a6;by_cases hroom:xs.length+s.size<=c
 ·have hr:=run_append_room_src (P:=prog) W 22 9 ty 5 i underlying22 hi g 0 xs.length c (Q s) s.size (Yh s) (hs W) hroom
   (fun j hj=>by rw[Yx] at hj;rw[a1];exact h4 _ (by omega)) (fun j hj=>by rw[Yx] at hj;rw[a1];exact h5 _ (by omega))
  obtain⟨b1,b2,b3,b4,b5⟩:=GB g (Yh s) (0+xs.length*i.size) W;have a7:W.grownBy (W.setCells g (0+xs.length*i.size) (Yh s)) (F g):=⟨b3,b2,b4,by omega,fun k _ hk=>b5 k (fun e=>hk (by rw[e]))⟩
  refine⟨_,_,_,hr,fy.grown hg a7 (fun k hk=>by cases hk;exact h1),⟨g,rfl,h1,by omega,?_,?_,?_,?_⟩,by omega⟩
  ·rw[Vk,Wg];exact hroom
  ·intro j hj
   exact World.isSome_setCells g _ _ W _ (h4 j hj)
  ·intro j hj
   rw[World.frozen?_setCells];exact h5 j hj
  ·intro j b a0
   rw[a1];rw[YW] at a0;split at a0
   ·rename_i hj
    rw[World.cell?_setCells_out g _ _ _ _ (fun _ _=>.inl (by show j<_;omega))];exact h6 j b a0
   ·rename_i hj
    have hl:j-xs.length<(Yh s).length:=by
     have:=(Vh.1 a0).1;rw[Yx];simpa using this
    have:=World.cell?_setCells_in g (Yh s) (0+xs.length*1) W (fun k hk=>by rw[Yx] at hk;exact h4 _ (by omega)) (j-xs.length) hl;rw[show 0+xs.length*1+(j-xs.length)=j from by omega] at this;rw[this,<-Vq hl];exact MW a0
 ·have hr:=run_append_grow_src (P:=prog) W 22 9 ty 5 i z underlying22 hi hz (F ⟨g,0,I⟩) xs.length c (xs.map fun b=>C .u8 (b.toNat:Int))
   (by
    refine run_firstCells_some W.drew i.size xs.length _ xs.length c _ (by rw[a1];simp) (fun j u hu=>?_);rw[Xw] at hu;cases hx:xs[j]? with
    | none=>rw[hx] at hu;simp at hu
    | some b=>
     rw[hx] at hu;simp at hu;subst hu;have:=h6 j b hx;show W.cell? _=_;rw[XO,VJ]
     exact this) (Q s) s.size (Yh s) (hs W) (by omega) (by omega) (growslice_fits (by omega) (by rw[a9];omega))
  have a4:=grownCap_ge W (xs.length+s.size) c 5;have a5:=Zb W (xs.length+s.size) c 5;generalize grownCap W (xs.length+s.size) c 5=c' at hr a4 a5;have a3:=a5 (by unfold maxLen;omega);unfold maxLen at a3;generalize hcur:((List.map (fun b=>C .u8 (b.toNat:Int)) xs++Yh s).toArray++Builtin.zeroCells z.cells (c'-(xs.length+s.size)))=cur at hr
  have a8:cur.size=c':=by
   rw[<-hcur,Ze,size_zeroCells,aa];simp only[List.size_toArray,Vk,Yb,Yx];show xs.length+s.size+(c'-(xs.length+s.size))*1=c';omega
  have a2:∀(j:Nat) b,(xs++s.data.toList)[j]?=F b->cur[j]?=F (C .u8 (b.toNat:Int)):=by
   intro j b a0
   have hm:(List.map (fun b=>C .u8 (b.toNat:Int)) xs++Yh s)=(xs++s.data.toList).map fun b=>C .u8 (b.toNat:Int):=by
    unfold Yh;rw[X9]
   have hj:=(Vh.1 a0).1;rw[<-hcur,hm,XE (by simpa using hj)];simp only[List.getElem?_toArray,Xw,a0];rfl
  refine⟨_,_,_,hr,(hg.trans ⟨_,_,Ht⟩).trans ⟨_,_,Bp _⟩,?_,by omega⟩;exact KV (Vj W.drew _) hg.size a8 (.inl rfl) (by rw[Vk,Wg];exact a4) a2
section
variable {ops:Array Oper} {rest:D Oper} {o:Oper} {a:Act} {Vc:Exit->Act->V->Prop} {K:Act->V->Prop}
theorem MG {P:Program} {t t2:Wl} {v2 v':Value} (s x:Operand)(ho:o.op=.call { callee:=.builtin .append,args:=#[s,x],argTypes:=#[t,t2] })(hs:a.eval s=J A n c)(hx:a.eval x=v2)
  (hrun:(WS #[t,t2] o.type #[J A n c,v2]).run P W=.ok v' W') (h:K (a.put o.dst v') W'):o.wp P a W K Vc:=by
 exact xD
theorem Gl (hgd:o.guard=I)(s x:Operand){W0 W:V}{A:N VQ}{n c:Nat}{xs:D UInt8}(hn:n=xs.length)(h:lM W0.heap.size W A c xs)(hg:fy W0 W){t:G}
  (ho:o.op=.call { callee:=.builtin .append,args:=#[s,x],argTypes:=#[22,9] }) (hs:a.eval s=J A n c) (hx:a.eval x=Q t) (hb:n+t.size<=140737488355328) (hc:c<=9223372036854775807)
  (hK:∀ A' c' os d,lM W0.heap.size (fH W0 os d) A' c' (xs++t.data.toList)->c'<=9223372036854775807->wpList prog ops Vc rest (a.put o.dst (J A' (n+t.size) c')) (fH W0 os d)):wpList prog ops Vc (o::rest) a W:=
 YJ hgd fun K hKK=>by
  obtain⟨A',c',W',hr,⟨os,d,rfl⟩,a0,a1⟩:=Nr (ty:=o.type) hn h hg t hb;exact MG s x ho hs hx hr (hKK _ _ (hK _ _ _ _ a0 fh))
end
theorem QM (k:Nat):∀ n,n<128 ^ (k+1)->(lh n).length<=k+1:=by
 induction k with
 | zero=>intro n h;rw[AC (by simpa using h)];simp
 | succ k ih=>
  intro n h;by_cases hn:n<128
  ·rw[AC hn];simp
  ·rw[Fs fh,VC]
   have:=ih (n / 128) (by rw[Yw] at h;omega);omega
theorem zH (h:n<=1099511627775):(jq n).data.toList=lh n:=by
 unfold jq;rw[Vs (pU fh fh)];rfl
theorem pA (n:Int):(jq n).size<=6:=by
 unfold jq;split
 ·rename_i h
  obtain⟨h1,h2⟩:=zr.1 h;have:=QM 5 n.toNat fh;show (lh n.toNat).toArray.size<=6;simpa using this
 ·show (#[]:Array UInt8).size<=6
  simp
theorem Sw {L:D UInt8}:∀(f k n:Nat)(m z:Nat),pF L a f k n=(m,z,H)->k<z/\z<=k+f/\a+z<=L.length/\m<=1099511627775:=by
 intro f;induction f with
 | zero=>intro k n m z h;simp[pF] at h
 | succ f ih=>
  intro k n m z h;cases hx:L[a+k]? with
  | none=>rw[Bt hx] at h;simp at h
  | some b=>
   have a0:=(Vh.1 hx).1;rw[zh hx] at h;split at h
   ·split at h
    ·rename_i he
     simp only[Xd,XR] at h;obtain⟨h1,rfl⟩:=h;refine⟨fh,fh,fh,?_⟩;rw[h1] at he;by_cases hm:m<=1099511627775
     ·exact hm
     ·exfalso
      have e0:(jq (m:Int)).data.toList = []:=by
       unfold jq;rw[Vo (by simp[zr];omega)]
      rw[e0] at he;have:((L.drop a).take (k+1)).length=0:=by rw[<-he];rfl
      rw[WK,WL] at this;omega
    ·simp at h
   ·have:=ih _ _ _ _ h
    omega
theorem pa {a:Int} (h:iN s a=(n,z,H)):0<=a/\1<=z/\z<=6/\a+z<=s.size/\n<=1099511627775:=by
 unfold iN at h;split at h
 ·rename_i h0
  have h1:=Sw _ _ _ _ _ h;have h2:s.data.toList.length=s.size:=by rw[Wg];rfl
  omega
 ·simp at h
theorem Dc (n:Nat)(h:n<=4611686018427387903):bits .and Z (n:Int) 1=(n:Int) % 2:=bits_mask Z 62 gv CQ 1 gv _ fh fh
def signed (n:Nat):Int:=if gE (n:Int) 0 1099511627775 then (if n % 2=1 then -((n:Int)+1) / 2 else (n:Int) / 2) else 0
theorem uU (n:Nat) : -1099511627776<=signed n/\signed n<=1099511627776:=by
 unfold signed;split
 ·rename_i h
  have:=zr.1 h;split <;> omega
 ·omega
theorem Jk (n q:Nat)(hn:n<=4398046511104)(h:n+1=2*q):Xr (-((n:Int)+1).tdiv 2) = -((n:Int)+1) / 2:=by
 have:(n:Int)+1=2*(q:Int):=by exact_mod_cast h
 rw[this,Int.mul_tdiv_cancel_left _ gv,uq fh fh];omega
def se (s:G):G:=jq s.size++s
def lk (s:G)(a:Int):G × Nat × Bool:=
 if (iN s a).2.2 && decide ((iN s a).1<=s.size-a.toNat-(iN s a).2.1) then (s.extract (a.toNat+(iN s a).2.1) (a.toNat+(iN s a).2.1+(iN s a).1),(iN s a).2.1+(iN s a).1,H) else (⟨#[]⟩,0,M)
def K4 (p:G × Nat × Bool)(w:V)(e:Z9)(w':V):Prop:=e=.returned (.tuple #[Q p.1,C Z p.2.1,X p.2.2])/\fy w w'
theorem FP {p q:G × Nat × Bool} (h:p=q){w w':V}(hG:fy w w'):K4 p w (.returned (.tuple #[Q q.1,C Z q.2.1,X q.2.2])) w':=by
 subst h;exact⟨rfl,hG⟩
theorem zrP (n:Nat)(hn:n<=4398046511104)(w:V):VK prog 100 #[C Z (n:Int)] w fun e w'=>e=.returned (C Z (signed n))/\w=w':=by
 cases hb:gE (n:Int) 0 1099511627775
 ·have HS:=fk (show signed n=0 from by simp[signed,hb])
  have HB:=fk hb;clear hb;go_enter func100,ntmps100;go_wp2_with(go_at_call 38;refine(lf _ _ _ _).mono ?_;rw[HB.out];rintro e w1 ⟨rfl,rfl⟩);go_ret;exact⟨nB HS.out.symm,rfl⟩
 ·obtain⟨a0,a1⟩:=zr.1 hb
  have HB:=fk hb;by_cases h2:n % 2=1
  ·have HS:=fk (show signed n = -((n:Int)+1) / 2 from by simp[signed,hb,h2])
   obtain⟨q,hq⟩:∃ q:Nat,n+1=2*q:=⟨(n+1) / 2,fh⟩
   clear hb;have e1:(n:Int) % 2=1:=fh;go_enter func100,ntmps100;go_wp2_with(go_at_call 38;refine(lf _ _ _ _).mono ?_;rw[HB.out];rintro e w1 ⟨rfl,rfl⟩);go_ret;exact⟨nB (by rw[HS.out];first | rfl | (exact Jk n q hn hq)),rfl⟩
  ·have HS:=fk (show signed n=(n:Int) / 2 from by simp[signed,hb,h2])
   clear hb;have e1:(n:Int) % 2=0:=fh;go_enter func100,ntmps100;go_wp2_with(go_at_call 38;refine(lf _ _ _ _).mono ?_;rw[HB.out];rintro e w1 ⟨rfl,rfl⟩);go_ret;exact⟨nB (by rw[HS.out]),rfl⟩
theorem zrR (n:Nat)(hn:n<=4398046511104)(w:V):VK prog 163 #[C Z (n:Int)] w fun e w'=>e=.returned (C Z (signed n))/\w=w':=by
 cases hb:gE (n:Int) 0 1099511627775
 ·have HS:=fk (show signed n=0 from by simp[signed,hb])
  have HB:=fk hb;clear hb;go_enter func163,ntmps163;go_wp2_with(go_at_call 43;refine(iU _ _ _ _).mono ?_;rw[HB.out];rintro e w1 ⟨rfl,rfl⟩);go_ret;exact⟨nB HS.out.symm,rfl⟩
 ·obtain⟨a0,a1⟩:=zr.1 hb
  have HB:=fk hb;by_cases h2:n % 2=1
  ·have HS:=fk (show signed n = -((n:Int)+1) / 2 from by simp[signed,hb,h2])
   obtain⟨q,hq⟩:∃ q:Nat,n+1=2*q:=⟨(n+1) / 2,fh⟩
   clear hb;have e1:bits .and Z (n:Int) 1=1:=by rw[Dc n fh];omega
   go_enter func163,ntmps163;go_wp2_with(go_at_call 43;refine(iU _ _ _ _).mono ?_;rw[HB.out];rintro e w1 ⟨rfl,rfl⟩);go_ret;exact⟨nB (by rw[HS.out];first | rfl | (exact Jk n q hn hq)),rfl⟩
  ·have HS:=fk (show signed n=(n:Int) / 2 from by simp[signed,hb,h2])
   clear hb;have e1:bits .and Z (n:Int) 1=0:=by rw[Dc n fh];omega
   go_enter func163,ntmps163;go_wp2_with(go_at_call 43;refine(iU _ _ _ _).mono ?_;rw[HB.out];rintro e w1 ⟨rfl,rfl⟩);go_ret;exact⟨nB (by rw[HS.out]),rfl⟩
theorem zj3 (s:G)(w:V)(hs:s.size<=1099511627775):VK prog 118 #[Q s] w fun e w'=>e=.returned (Q (se s))/\fy w w':=by
 have hz:(jq s.size).size+s.size<=9223372036854775807:=by have:=pA s.size;omega
 go_enter func118,ntmps118;go_wp2_with(go_at_call 117;refine(zgs _ _).mono ?_;rintro e w1 ⟨rfl,os,d,rfl⟩);go_ret;exact⟨rfl,gG⟩
theorem zgB (s:G)(a:Int)(w:V)(hs:s.size<=1099511627776)(ha:fQ a):VK prog 109 #[Q s,C Z a] w (K4 (lk s a) w):=by
 obtain⟨n,z,ok,hp⟩:∃ n z ok,iN s a=(n,z,ok):=⟨_,_,_,rfl⟩
 have HP:=fk hp;cases ok
 ·have HQ:=fk (show lk s a=(⟨#[]⟩,0,M) from by simp[lk,hp])
  clear hp;go_enter func109,ntmps109;go_wp2_with(go_at_call 108;refine(zd1 _ _ _ hs ha).mono ?_;rw[HP.out];rintro e w1 ⟨rfl,os,d,rfl⟩);go_ret3;exact FP HQ.out gG
 ·obtain⟨h1,h2,h3,h4,h5⟩:=pa hp
  obtain⟨a,rfl⟩:=VI h1;by_cases hf:n<=s.size-a-z
  ·have HQ:=fk (show lk s a=(s.extract (a+z) (a+z+n),z+n,H) from by simp[lk,hp,hf])
   clear hp;have a0:(n:Int)<=(s.size:Int)-a-z:=fh;go_enter func109,ntmps109;go_wp2_with(go_at_call 108;refine(zd1 _ _ _ hs ha).mono ?_;rw[HP.out];rintro e w1 ⟨rfl,os,d,rfl⟩);go_ret3;exact FP (q:=(s.extract (a+z) (a+z+n),z+n,H)) HQ.out gG
  ·have HQ:=fk (show lk s a=(⟨#[]⟩,0,M) from by simp[lk,hp,hf])
   clear hp;have a0:¬ (n:Int)<=(s.size:Int)-a-z:=fh;go_enter func109,ntmps109;go_wp2_with(go_at_call 108;refine(zd1 _ _ _ hs ha).mono ?_;rw[HP.out];rintro e w1 ⟨rfl,os,d,rfl⟩);go_ret3;exact FP (q:=(⟨#[]⟩,0,M)) HQ.out gG
theorem Hb {α:Type} {xs:D α} {f:α->Bool} {x:α} (h:xs[j]?=F x)(hf:f x=M):xs.all f=M:=Hp h hf
def oV (n:Int):Bool:=gE n (-549755813888) 549755813887
theorem Bu {n:Int} (h:oV n=H):0<=zV n/\zV n<=1099511627775:=by
 unfold oV at h;obtain⟨h1,h2⟩:=zr.1 h;unfold zV;rw[h,Vs rfl];split <;> omega
def nD (l:D Int):D UInt8:=(l.map fun n=>(jq (zV n)).data.toList).flatten
theorem It {x:Int} (h:l[j]?=F x):nD (l.take (j+1))=nD (l.take j)++(jq (zV x)).data.toList:=by
 unfold nD;rw[yB h,X9,List.flatten_append];simp
theorem Jx (l:D Int)(j:Nat):(nD (l.take j)).length<=6*j:=by
 have h:∀ l:D Int,(nD l).length<=6*l.length:=by
  intro l;induction l with
  | nil=>simp[nD]
  | cons x xs ih=>
   have h1:=pA (zV x);have h2:(jq (zV x)).data.toList.length=(jq (zV x)).size:=by rw[Wg];rfl
   have h3:nD (x::xs)=(jq (zV x)).data.toList++nD xs:=rfl;rw[h3,Vk,VC];omega
 have:=h (l.take j);have h2:=List.length_take_le j l;omega
def kJ (l:D Int):G:=if l.all oV then ⟨((jq l.length).data.toList++nD l).toArray⟩ else ⟨#[]⟩
theorem BD (n:Int):(jq n).data.toList.length<=6:=by rw[Wg];exact pA n
theorem lM.ri {lo':Nat} (h:lM lo W A c xs)(hl:lo'<=lo):lM lo' W A c xs:=by
 obtain⟨g,h0,h1,h2⟩:=h;exact⟨g,h0,VL hl h1,h2⟩
theorem yO (s:G):s.data.toList.length=s.size:=by rw[Wg];rfl
theorem LW (s:G):(⟨s.data.toList.toArray⟩:G)=s:=gm
theorem FZ (l:D UInt8):(⟨l.toArray⟩:G).size=l.length:=by
 show l.toArray.size=_;simp
theorem zlQ (hx:(zv.sl 3).R w w.heap.size [J A l.length c] l)(hl:l.length<=1099511627775):VK prog 119 #[J A l.length c] w fun e w'=>e=.returned (Q (kJ l))/\fy w w':=by
 obtain⟨_,_,hv,h2,h3⟩:=mQ hx;injection hv with hA _ hc
 subst hA hc;go_enter func119,ntmps119;go_wp2_with(first | (go_at_call 117;refine(zgs _ _).mono ?_;rintro e w1 ⟨rfl,a2,d1,rfl⟩) | (go_at_call 90;refine(EY _ _).mono ?_;rintro e w1 ⟨rfl,rfl⟩));go_loopw [3,4] (fun a i wr=>∃(j:Nat) (a0:D UInt8),j<=l.length/\a=Q ⟨a0.toArray⟩/\i=C Z j/\a0.length<=6+6*j/\Hid (a0=(jq l.length).data.toList++nD (l.take j))/\Hid ((l.take j).all oV=H)/\Hid (fy w wr)) (fun _ i _=>l.length-(Wj i).toNat)
 case atStart=>exact⟨0,(jq l.length).data.toList,Vu _,LI (LW _).symm,rfl,by have:=BD l.length;omega,fk (by simp[nD]),fk gm,fk gG⟩
 case round=>
  obtain⟨j,a0,hj,rfl,rfl,a3,HT,HO,hG⟩:=hrel;obtain⟨os,d,rfl⟩:=hG.out;clear hG;by_cases hlt:j<l.length
  ·obtain⟨g,aa,x,rfl,a1,a4,a8,a9⟩:=ma hx hlt
   have a5:=Wf _ _ a4;simp only at a5;have HX:=fk a1;have a7:=fk hx;clear a1 hx;cases hb:oV x
   ·have HF:=fk (show kJ l=⟨#[]⟩ from by unfold kJ;rw[Hb HX.out hb];rfl)
    have b6:decide (zV x<0)=H:=by rw[vJ];unfold oV at hb;rw[hb];rfl
    clear hb;go_wp2_with(first | (go_at_call 117;refine(zgs _ _).mono ?_;rintro e w1 ⟨rfl,a2,d1,rfl⟩) | (go_at_call 90;refine(EY _ _).mono ?_;rintro e w1 ⟨rfl,rfl⟩));go_ret;exact⟨nu HF.out.symm,gG⟩
   ·have HB:=fk hb
    have b6:decide (zV x<0)=M:=by rw[vJ];unfold oV at hb;rw[hb];rfl
    have b7:=Bu hb;clear hb;have b8:=pA (zV x);have hz:(⟨a0.toArray⟩:G).size+(jq (zV x)).size<=9223372036854775807:=by rw[FZ];omega
    go_wp2_with(first | (go_at_call 117;refine(zgs _ _).mono ?_;rintro e w1 ⟨rfl,a2,d1,rfl⟩) | (go_at_call 90;refine(EY _ _).mono ?_;rintro e w1 ⟨rfl,rfl⟩));go_roundw;exact⟨j+1,a0++(jq (zV x)).data.toList,fh,LI (by rw[<-P7,LW]),io,by{ rw[Vk];have:=BD (zV x);omega },fk (by rw[It HX.out,HT.out,VM]),fk (Fj HX.out HO.out HB.out),fk gG⟩;exact iC
  ·have a6:j=l.length:=fh
   subst a6
   have HF:=fk (show kJ l=⟨a0.toArray⟩ from by
    have h:=HO.out;have h2:=HT.out;rw[WG] at h h2
    unfold kJ;rw[h,Vs rfl,h2])
   go_wp2;go_ret;exact⟨nu HF.out.symm,gG⟩
theorem zyt (hx:(zv.sl 3).R w w.heap.size [J A l.length c] l)(hl:l.length<=1099511627775):VK prog 63 #[J A l.length c] w fun e w'=>e=.returned (Q (kJ l))/\fy w w':=by
 obtain⟨_,_,hv,h2,h3⟩:=mQ hx;injection hv with hA _ hc
 subst hA hc;go_enter func63,ntmps63;go_wp2_with(go_at_call 62;refine(zku _ _).mono ?_;rintro e w1 ⟨rfl,a3,d1,rfl⟩;obtain⟨cb,ai,db,kb,a4,a7⟩:=To (fH w a3 d1) (jq l.length));have a5:=fk a4;have KB:=fk kb;have a2:cb<=9223372036854775807:=a7 (by have:=pA l.length;omega);clear a4 kb a7;go_loopw [3,12] (fun b i wr=>∃(j:Nat) (a0:D UInt8) (A2:N VQ) (c2:Nat),j<=l.length/\b=J A2 a0.length c2/\i=C Z j/\c2<=9223372036854775807/\a0.length<=6+6*j/\Hid (a0=(jq l.length).data.toList++nD (l.take j))/\Hid ((l.take j).all oV=H)/\Hid (fy w wr)/\Hid (lM w.heap.size wr A2 c2 a0)) (fun _ i _=>l.length-(Wj i).toNat)
 case atStart=>exact⟨0,(jq l.length).data.toList,_,cb,Vu _,by rw[yO,mJ],rfl,a2,by have:=BD l.length;omega,fk (by simp[nD]),fk gm,fk gG,fk (lM.ri a5.out gm)⟩
 case round=>
  clear a5;obtain⟨j,a0,A2,c2,hj,rfl,rfl,a1,a9,HT,HO,hG,hB⟩:=hrel;obtain⟨os,d,rfl⟩:=hG.out;clear hG;by_cases hlt:j<l.length
  ·obtain⟨g,ah,x,rfl,a8,aa,af,ag⟩:=ma hx hlt
   have ab:=Wf _ _ aa;simp only at ab;have HX:=fk a8;have ae:=fk hx;clear a8 hx;cases hb:oV x
   ·have HF:=fk (show kJ l=⟨#[]⟩ from by unfold kJ;rw[Hb HX.out hb];rfl)
    have b6:decide (zV x<0)=H:=by rw[vJ];unfold oV at hb;rw[hb];rfl
    clear hb;go_wp2_with(first | (at_builtin;go_must (refine Gl rfl (.tmp 19) (.tmp 22) (W0:=w) rfl (hB.out.fH gG) gG rfl rfl rfl fh fh ?_);intro A2 c2 ad d2 a6 a1) | (go_at_call 62;refine(zku _ _).mono ?_;rintro e w1 ⟨rfl,a3,d1,rfl⟩) | (go_at_call 67;refine(yt _ _).mono ?_;rintro e w1 ⟨rfl,rfl⟩));go_ret;exact⟨nu HF.out.symm,gG⟩
   ·have HB:=fk hb
    have b6:decide (zV x<0)=M:=by rw[vJ];unfold oV at hb;rw[hb];rfl
    have b7:=Bu hb;clear hb;have b8:=pA (zV x);go_wp2_with(first | (at_builtin;go_must (refine Gl rfl (.tmp 19) (.tmp 22) (W0:=w) rfl (hB.out.fH gG) gG rfl rfl rfl fh fh ?_);intro A2 c2 ad d2 a6 a1) | (go_at_call 62;refine(zku _ _).mono ?_;rintro e w1 ⟨rfl,a3,d1,rfl⟩) | (go_at_call 67;refine(yt _ _).mono ?_;rintro e w1 ⟨rfl,rfl⟩));go_roundw;exact⟨j+1,a0++(jq (zV x)).data.toList,A2,c2,fh,by rw[Vk,Wg];rfl,io,a1,by{ rw[Vk];have:=BD (zV x);omega },fk (by rw[It HX.out,HT.out,VM]),fk (Fj HX.out HO.out HB.out),fk gG,fk a6⟩;exact iC
  ·have ac:j=l.length:=fh
   subst ac
   have HF:=fk (show kJ l=⟨a0.toArray⟩ from by
    have h:=HO.out;have h2:=HT.out;rw[WG] at h h2
    unfold kJ;rw[h,Vs rfl,h2])
   have kc:=Ed (hB.out.read (e:=5) a1);go_wp2;go_ret;exact⟨nu HF.out.symm,gG⟩
def nW (s:G)(a:Int):Nat->Nat->D Int->N (D Int × Nat)
 | 0,z,acc=>F (acc,z)
 | c+1,z,acc=>if (iN s (a+z)).2.2 then nW s a c (z+(iN s (a+z)).2.1) (acc++[signed (iN s (a+z)).1]) else I
def vy:N (D Int × Nat)->D Int × Nat × Bool
 | some (l,n)=>(l,n,H)
 | none=>([],0,M)
def iX (s:G)(a:Int):D Int × Nat × Bool:=if (iN s a).2.2 then vy (nW s a (iN s a).1 (iN s a).2.1 []) else ([],0,M)
theorem CO {a:Int} {acc:D Int} {t:Nat} (h:iN s (a+q)=(m,t,M)):nW s a (f+1) q acc=I:=by
 simp[nW,h]
theorem BP {a:Int} {acc:D Int} {t:Nat} (h:iN s (a+q)=(m,t,H)):nW s a (f+1) q acc=nW s a f (q+t) (acc++[signed m]):=by
 simp[nW,h]
theorem PS:∀{c z:Nat}{acc:D Int},a+z<=s.size->s.size<a+z+c->nW s a c z acc=I:=by
 intro c;induction c with
 | zero=>intro z acc h1 h2;omega
 | succ c ih=>
  intro z acc h1 h2;obtain⟨m,t,ok,hm⟩:∃ m t ok,iN s ((a:Int)+z)=(m,t,ok):=⟨_,_,_,rfl⟩
  cases ok
  ·exact CO hm
  ·have:=pa hm
   rw[BP hm];exact ih fh fh
theorem Pv {L:D UInt8}:∀(f k n:Nat)(m z:Nat),pF L a f k n=(m,z,M)->m=0/\z=0:=by
 intro f;induction f with
 | zero=>intro k n m z h;simp[pF] at h;omega
 | succ f ih=>
  intro k n m z h;cases hx:L[a+k]? with
  | none=>rw[Bt hx] at h;simp at h;omega
  | some b=>
   rw[zh hx] at h;split at h
   ·split at h
    ·simp at h
    ·simp at h;omega
   ·exact ih _ _ _ _ h
theorem te {a:Int} (h:iN s a=(m,z,M)):m=0/\z=0:=by
 unfold iN at h;split at h
 ·exact Pv _ _ _ _ _ h
 ·simp at h;omega
def F7 (p:D Int × Nat × Bool)(w:V)(e:Z9)(w':V):Prop:=∃ A c,e=.returned (.tuple #[J A p.1.length c,C Z p.2.1,X p.2.2])/\gH (zv.sl 3) w w' [J A p.1.length c] p.1/\fy w w'
theorem BN {p q:D Int × Nat × Bool} (h:p=q){w w':V}{A:N VQ}{c:Nat}(hF:gH (zv.sl 3) w w' [J A q.1.length c] q.1)(hG:fy w w'):F7 p w (.returned (.tuple #[J A q.1.length c,C Z q.2.1,X q.2.2])) w':=by
 subst h;exact⟨A,c,rfl,hF,hG⟩
theorem xA {g:Prop} (f:g:=by
  go_enter func65,ntmps65
  go_wp2_with(go_at_call 64;refine(zha _ _ _ hs ha).mono ?_;rw[HP.out];rintro e w1 ⟨rfl,os1,d1,rfl⟩)
  go_ret3
  exact BN HQ.out (yC _ _) gG):g:=f
theorem xM {g:Prop} (f:g:=by
  subst hje
  have HQ:=fk (show iX s a=(acc,q,H) from by rw[HS.out,<-HT.out,Ws];rfl)
  go_wp2
  go_ret3
  exact BN (q:=(acc,q,H)) HQ.out hF.out gG):g:=f
theorem zp8 (s:G)(a:Int)(w:V)(hs:s.size<=1099511627776)(ha:fQ a):VK prog 65 #[Q s,C Z a] w (F7 (iX s a) w):=by
 obtain⟨n,z,ok,hp⟩:∃ n z ok,iN s a=(n,z,ok):=⟨_,_,_,rfl⟩
 have HP:=fk hp;cases ok
 ·have HQ:=fk (show iX s a=([],0,M) from by simp[iX,hp])
  obtain⟨rfl,rfl⟩:=te hp;clear hp;exact xA
 ·obtain⟨h1,h2,h3,h4,h5⟩:=pa hp
  obtain⟨a,rfl⟩:=VI h1;have HS:=fk (show iX s a=vy (nW s a n z []) from by simp[iX,hp]);clear hp;by_cases hbig:s.size<n
  ·have HQ:=fk (show iX s a=([],0,M) from by rw[HS.out,PS fh fh];rfl)
   exact xA
  ·go_enter func65,ntmps65
   go_wp2_with(go_at_call 64;refine(zha _ _ _ hs ha).mono ?_;rw[HP.out];rintro e w1 ⟨rfl,os1,d1,rfl⟩);go_loopw [8,10,11] (fun y x b wr=>∃(j q:Nat) (acc:D Int) (A:N VQ) (c:Nat),b=C Z j/\x=J A acc.length c/\y=C Z q/\j<=n/\acc.length+1<=q/\a+q<=s.size/\Hid (nW s a (n-j) q acc=nW s a n z [])/\Hid (fy w wr)/\Hid (gH (zv.sl 3) w wr [J A acc.length c] acc)) (fun _ _ b _=>n-(Wj b).toNat)
   case atStart=>exact⟨0,z,[],_,0,rfl,rfl,rfl,fh,by simpa using h2,fh,fk rfl,fk gG,fk (yp gG gm)⟩
   case round=>
    obtain⟨j,q,acc,A,c,rfl,rfl,rfl,hj,hq,a5,HT,hG,hF⟩:=hrel;obtain⟨os,d,rfl⟩:=hG.out;clear hG;by_cases hlt:j<n
    ·obtain⟨f,hf⟩:∃ f,n-j=f+1:=⟨n-j-1,fh⟩
     have a1:=fk hf;have a3:=fk (show n-(j+1)=f from fh);clear hf;obtain⟨m,t,ok,hm⟩:∃ m t ok,iN s ((a:Int)+q)=(m,t,ok):=⟨_,_,_,rfl⟩
     have HM:=fk hm;have a0:fQ ((a:Int)+q):=⟨fh,fh⟩
     cases ok
     ·have HQ:=fk (show iX s a=([],0,M) from by rw[HS.out,<-HT.out,a1.out,CO hm];rfl)
      clear hm;go_wp2_with(first | (at_builtin;go_must (refine yo (W0:=w) (L:=acc.length+1) rfl (.tmp 47) (.tmp 50) me zI (hF.out.fH gG).mw gG (W1:=w) (B:=0) (ec:=[C Z (signed m)]) (y:=signed m) ⟨rfl,by have:=uU m;omega,by have:=uU m;omega⟩ rfl rfl rfl (by intro j u hu;simpa[go_sem] using hu) rfl fh fh ?_);intro A2 c2 a4 d2 a2) | (go_at_call 64;refine(zha _ _ _ hs a0).mono ?_;rw[HM.out];rintro e w1 ⟨rfl,os1,d1,rfl⟩) | (go_at_call 100;refine(zrP m fh _).mono ?_;rintro e w1 ⟨rfl,rfl⟩));go_ret3;exact BN HQ.out (yC _ _) gG
     ·obtain⟨g1,g2,g3,g4,g5⟩:=pa hm
      have HN:=fk (BP (f:=f) (acc:=acc) hm);clear hm;go_wp2_with(first | (at_builtin;go_must (refine yo (W0:=w) (L:=acc.length+1) rfl (.tmp 47) (.tmp 50) me zI (hF.out.fH gG).mw gG (W1:=w) (B:=0) (ec:=[C Z (signed m)]) (y:=signed m) ⟨rfl,by have:=uU m;omega,by have:=uU m;omega⟩ rfl rfl rfl (by intro j u hu;simpa[go_sem] using hu) rfl fh fh ?_);intro A2 c2 a4 d2 a2) | (go_at_call 64;refine(zha _ _ _ hs a0).mono ?_;rw[HM.out];rintro e w1 ⟨rfl,os1,d1,rfl⟩) | (go_at_call 100;refine(zrP m fh _).mono ?_;rintro e w1 ⟨rfl,rfl⟩));go_roundw;exact⟨j+1,q+t,acc++[signed m],A2,c2,io,gm,io,fh,by simp;omega,fh,fk (by rw[<-HT.out,a1.out,a3.out,HN.out]),fk gG,fk (by simpa using a2)⟩;exact iC
    ·have hje:j=n:=fh
     exact xM
theorem zdN (s:G)(a:Int)(w:V)(hs:s.size<=1099511627776)(ha:fQ a):VK prog 110 #[Q s,C Z a] w (F7 (iX s a) w):=by
 obtain⟨n,z,ok,hp⟩:∃ n z ok,iN s a=(n,z,ok):=⟨_,_,_,rfl⟩
 have HP:=fk hp;cases ok
 ·have HQ:=fk (show iX s a=([],0,M) from by simp[iX,hp])
  obtain⟨rfl,rfl⟩:=te hp;clear hp;go_enter func110,ntmps110;go_wp2_with(go_at_call 108;refine(zd1 _ _ _ hs ha).mono ?_;rw[HP.out];rintro e w1 ⟨rfl,a4,d1,rfl⟩);go_loop [9,11] (fun x y=>x=X M/\y=C Z 0) (fun _ _=>0)
  case atStart=>exact⟨rfl,rfl⟩
  case round=>
   obtain⟨rfl,rfl⟩:=hrel;go_wp2;go_ret3;exact BN HQ.out (GM (W0:=w) gG gG gm) gG
 ·obtain⟨h1,h2,h3,h4,h5⟩:=pa hp
  obtain⟨a,rfl⟩:=VI h1;have HS:=fk (show iX s a=vy (nW s a n z []) from by simp[iX,hp]);clear hp;go_enter func110,ntmps110;go_wp2_with(go_at_call 108;refine(zd1 _ _ _ hs ha).mono ?_;rw[HP.out];rintro e w1 ⟨rfl,a4,d1,rfl⟩);go_loopw [8,9,10,11] (fun y k x b wr=>∃(j q:Nat) (acc:D Int) (A:N VQ) (c:Nat) (ok:Bool),k=X ok/\b=C Z j/\x=J A acc.length c/\y=C Z q/\j<=n/\acc.length<=q+1/\a+q<=s.size/\Hid (ok=M->iX s a=([],0,M))/\Hid (ok=H->acc.length<=q)/\Hid (ok=H->nW s a (n-j) q acc=nW s a n z [])/\Hid (fy w wr)/\Hid (gH (zv.sl 3) w wr [J A acc.length c] acc)) (fun _ _ _ b _=>n-(Wj b).toNat)
  case atStart=>exact⟨0,z,[],_,0,H,rfl,rfl,rfl,rfl,fh,gm,fh,fk (fun h=>by cases h),fk (fun _=>gm),fk (fun _=>rfl),fk gG,fk (yp gG gm)⟩
  case round=>
   obtain⟨j,q,acc,A,c,ok,rfl,rfl,rfl,rfl,hj,hq,a8,a1,HL,a2,hG,hF⟩:=hrel;obtain⟨os,d,rfl⟩:=hG.out;clear hG;cases ok
   ·have HQ:=fk (a1.out rfl)
    clear a1 a2 HL;by_cases hlt:j<n
    all_goals
     go_wp2
     go_ret3
     exact BN HQ.out (GM (W0:=w) gG gG gm) gG
   ·have HT:=fk (a2.out rfl)
    have a9:=HL.out rfl;clear a1 a2 HL;by_cases hlt:j<n
    ·obtain⟨f,hf⟩:∃ f,n-j=f+1:=⟨n-j-1,fh⟩
     have a5:=fk hf;have a6:=fk (show n-(j+1)=f from fh);clear hf;obtain⟨m,t,ok,hm⟩:∃ m t ok,iN s ((a:Int)+q)=(m,t,ok):=⟨_,_,_,rfl⟩
     have HM:=fk hm;have a0:fQ ((a:Int)+q):=⟨fh,fh⟩
     cases ok
     ·have HQ:=fk (show iX s a=([],0,M) from by rw[HS.out,<-HT.out,a5.out,CO hm];rfl)
      have aa:m<=0:=by have:=(te hm).1;omega
      have ab:t<=0:=by have:=(te hm).2;omega
      clear hm;go_wp2_with(first | (at_builtin;go_must (refine yo (W0:=w) (L:=acc.length+1) rfl (.tmp 44) (.tmp 47) me zI (hF.out.fH gG).mw gG (W1:=w) (B:=0) (ec:=[C Z (signed m)]) (y:=signed m) ⟨rfl,by have:=uU m;omega,by have:=uU m;omega⟩ rfl rfl rfl (by intro j u hu;simpa[go_sem] using hu) rfl fh fh ?_);intro A2 c2 a7 d2 a3) | (go_at_call 108;refine(zd1 _ _ _ hs a0).mono ?_;rw[HM.out];rintro e w1 ⟨rfl,a4,d1,rfl⟩) | (go_at_call 163;refine(zrR m fh _).mono ?_;rintro e w1 ⟨rfl,rfl⟩));go_roundw;exact⟨j+1,q+t,acc++[signed m],A2,c2,M,rfl,io,gm,io,fh,by simp;omega,fh,fk (fun _=>HQ.out),fk (fun h=>by cases h),fk (fun h=>by cases h),fk gG,fk (by simpa using a3)⟩;exact iC
     ·obtain⟨g1,g2,g3,g4,g5⟩:=pa hm
      have HN:=fk (BP (f:=f) (acc:=acc) hm);clear hm;go_wp2_with(first | (at_builtin;go_must (refine yo (W0:=w) (L:=acc.length+1) rfl (.tmp 44) (.tmp 47) me zI (hF.out.fH gG).mw gG (W1:=w) (B:=0) (ec:=[C Z (signed m)]) (y:=signed m) ⟨rfl,by have:=uU m;omega,by have:=uU m;omega⟩ rfl rfl rfl (by intro j u hu;simpa[go_sem] using hu) rfl fh fh ?_);intro A2 c2 a7 d2 a3) | (go_at_call 108;refine(zd1 _ _ _ hs a0).mono ?_;rw[HM.out];rintro e w1 ⟨rfl,a4,d1,rfl⟩) | (go_at_call 163;refine(zrR m fh _).mono ?_;rintro e w1 ⟨rfl,rfl⟩));go_roundw;exact⟨j+1,q+t,acc++[signed m],A2,c2,H,rfl,io,gm,io,fh,by simp;omega,fh,fk (fun h=>by cases h),fk (fun _=>by simp;omega),fk (fun _=>by rw[<-HT.out,a5.out,a6.out,HN.out]),fk gG,fk (by simpa using a3)⟩;exact iC
    ·have hje:j=n:=fh
     exact xM
theorem Og {Vb:V} {e:Wl} {a b c:Int} (ha:fQ a)(hb:fQ b)(hc:fQ c)(hg:fy (Vb.alloc (U #[C Z a,C Z b,C Z c] e)) W)(h0:fy W0 Vb){g:Nat}(hgX:g=Vb.heap.size):gH (zv.sl e) W0 W [J (F ⟨g,0,I⟩) 3 3] [a,b,c]:=by
 subst hgX;refine gH.fH ⟨[Vb.heap.size],qG (xs:=[a,b,c]) (Vj Vb _) (show gz zv _ _ [a,b,c] [] from⟨[C Z a],[C Z b,C Z c],[],[],rfl,rfl,⟨rfl,ha.1,ha.2,rfl⟩,⟨[C Z b],[C Z c],[],[],rfl,rfl,⟨rfl,hb.1,hb.2,rfl⟩,⟨[C Z c],[],[],[],rfl,rfl,⟨rfl,hc.1,hc.2,rfl⟩,rfl,rfl⟩⟩⟩) gm,gm,fun b hb=>?_⟩ hg;simp at hb;subst hb;exact h0.size
theorem Ir (l:D Int):(kJ l).size<=6+6*l.length:=by
 unfold kJ;split
 ·rw[FZ,Vk]
  have h1:=BD l.length;have h2:=Jx l l.length;rw[WG] at h2;omega
 ·show (#[]:Array UInt8).size<=_
  simp
def li (x:iy):G:=if mY x then jq x.ij++kJ (x.gg.Pc::x.gg.Sp::x.gg.Fp::x.gg.gK) else ⟨#[]⟩
theorem zsC {x:iy} (p0:fQ x.ij)(p1:fQ x.gg.Pc)(p2:fQ x.gg.Sp)(p3:fQ x.gg.Fp)(h1:(zv.sl 3).R w w.heap.size [J A0 x.gg.gK.length c0] x.gg.gK)(hs:x.gg.gK.length<=1099511627000) :
  VK prog 29 #[.agg #[C Z x.ij,C Z x.gg.Pc,C Z x.gg.Sp,C Z x.gg.Fp,J A0 x.gg.gK.length c0]] w fun e w'=>e=.returned (Q (li x))/\fy w w':=by
 cases hok:mY x
 ·have HS:=fk (show li x=⟨#[]⟩ from by simp[li,hok])
  have HO:=fk hok;clear hok;go_enter func29,ntmps29;go_wp2_with(go_at_call 31;refine(zfY (x:=x) (Ty.up _ h1 gG) fh).mono ?_;rw[HO.out];rintro e w1 ⟨rfl,a2,d1,rfl⟩);go_ret;exact⟨nu HS.out.symm,gG⟩
 ·have HS:=fk (show li x=jq x.ij++kJ (x.gg.Pc::x.gg.Sp::x.gg.Fp::x.gg.gK) from by simp[li,hok])
  have HO:=fk hok
  have hz:(jq x.ij).size+(kJ (x.gg.Pc::x.gg.Sp::x.gg.Fp::x.gg.gK)).size<=9223372036854775807:=by
   have h1:=pA x.ij;have h2:=Ir (x.gg.Pc::x.gg.Sp::x.gg.Fp::x.gg.gK);simp only[VC] at h2;omega
  clear hok;go_enter func29,ntmps29;go_wp2_with(go_at_call 31;refine(zfY (x:=x) (Ty.up _ h1 gG) fh).mono ?_;rw[HO.out];rintro e w1 ⟨rfl,a2,d1,rfl⟩);have a1:=fun w=>run_string_add_sum (P:=prog) w _ _ hz
  go_region_held3 (fun w'=>Vg w' ⟨w.heap.size,0,I⟩=F (C Z x.ij)/\Vg w' ⟨w.heap.size,1,I⟩=F (C Z x.gg.Pc)/\Vg w' ⟨w.heap.size,2,I⟩=F (C Z x.gg.Sp)/\Vg w' ⟨w.heap.size,3,I⟩=F (C Z x.gg.Fp)/\Vg w' ⟨w.heap.size,4,I⟩=F (J A0 x.gg.gK.length c0)) ((repeat' apply Vm) <;> (first | ((repeat (first | assumption | with_reducible refine zd ?_ _ _ | with_reducible refine zq ?_ _ | with_reducible refine zc ?_));done) | (simp[go_sem];done))) (first
   | (go_at_call 62;refine(zku _ _).mono ?_;rintro e w2 ⟨rfl,a3,d2,rfl⟩)
   | (go_at_call 63;refine(zyt (l:=x.gg.Pc::x.gg.Sp::x.gg.Fp::x.gg.gK) (Ty.up _ a0.read gG) (by simp;omega)).mono ?_;rintro e w2 ⟨rfl,a5,d4,rfl⟩)
   | (refine ME (L:=x.gg.gK.length+3) (W0:=w.alloc (U #[C Z x.ij,C Z x.gg.Pc,C Z x.gg.Sp,C Z x.gg.Fp,J A0 x.gg.gK.length c0] 51)) rfl (.tmp 18) (.tmp 21) me zI (Og p1 p2 p3 gG gG gm) gG (Ty.up _ h1 gG) rfl rfl rfl fh fh fh ?_;intro B3 c3 a4 d3 a0))
  all_goals go_wp2
  all_goals go_ret
  all_goals exact⟨nu HS.out.symm,gG⟩
theorem OM {x:Int} (h:oV x=H):signed (zV x).toNat=x:=by
 have hb:=Bu h;unfold oV at h;have h2:=zr.1 h;unfold signed;rw[Vs (pU fh fh)];have e:zV x=if x<0 then -2*x-1 else 2*x:=by unfold zV;rw[h,Vs rfl]
 split at e
 ·rw[Vs fh];omega
 ·rw[Vo fh];omega
theorem xh {g:Prop} (f:g:=by
  have hb:(WT m).toNat=m:=Ye (by show m<256;omega)
  rw[zh hx,hb,Vs hm,YS hm,<-h1,zH hN]
  have hl:(lh Ve).length=k+1:=by rw[h2,AC hm,Vk,h3];rfl
  rw[Vs (by rw[hL,<-hl];simp),hl]):g:=f
theorem Qh {L:D UInt8} (hN:Ve<=1099511627775)(hL:L.drop a=lh Ve++rest):∀(f k n m:Nat)(P:D UInt8),Ve=n+m*128 ^ k->lh Ve=P++lh m->P.length=k->m<128 ^ (f+1)->pF L a (f+1) k n=(Ve,(lh Ve).length,H):=by
 intro f;induction f with
 | zero=>
  intro k n m P h1 h2 h3 h4;have hm:m<128:=by simpa using h4
  have hx:L[a+k]?=F (WT m):=by
   rw[<-Xi,hL,h2,AC hm,<-h3];simp
  exact xh
 | succ f ih=>
  intro k n m P h1 h2 h3 h4;by_cases hm:m<128
  ·have hx:L[a+k]?=F (WT m):=by
    rw[<-Xi,hL,h2,AC hm,<-h3];simp
   exact xh
  ·have hv:=Fs (n:=m) fh
   have hx:L[a+k]?=F (WT (m % 128+128)):=by
    rw[<-Xi,hL,h2,hv,<-h3];simp
   have hb:(WT (m % 128+128)).toNat=m % 128+128:=Ye (by show m % 128+128<256;omega);rw[zh hx,hb,Vo fh];have e1:(m % 128+128) % 128=m % 128:=fh;rw[e1];refine ih (k+1) _ (m / 128) (P++[WT (m % 128+128)]) ?_ (by rw[h2,hv];simp) (by simp[h3]) (by rw[Yw] at h4;omega);have e2:m*128 ^ k=(m % 128+128*(m / 128))*128 ^ k:=by rw[Nat.mod_add_div]
   rw[h1,e2,Yi,Yw];rw[Yq,YL 128 (m / 128),Nat.mul_assoc,YL 128 (128 ^ k)]
theorem C8 (hN:Ve<=1099511627775)(hL:s.data.toList.drop a=lh Ve++rest):iN s a=(Ve,(lh Ve).length,H):=by
 unfold iN;rw[Vs fh,Vy];exact Qh hN hL 5 0 0 Ve [] gm rfl rfl fh
theorem Is {x:Int} (h:oV x=H):nD (x::l)=lh (zV x).toNat++nD l:=by
 have hb:=Bu h
 have:(jq (zV x)).data.toList=lh (zV x).toNat:=by
  obtain⟨n,hn⟩:=VI hb.1;rw[hn];exact zH fh
 rw[<-this];rfl
theorem Jn {s:G}{a:Nat}:∀(l:D Int)(z:Nat)(acc:D Int)(rest:D UInt8),l.all oV=H->s.data.toList.drop (a+z)=nD l++rest->nW s a l.length z acc=F (acc++l,z+(nD l).length)
 | [],z,acc,rest,_,_=>by simp[nW,nD]
 | x::l,z,acc,rest,h,hd=>by
  simp only[List.all_cons,Vt] at h;have hb:=Bu h.1;rw[Is h.1,VM] at hd;have h1:=C8 (Ve:=(zV x).toNat) fh hd;have e:((a+z:Nat):Int)=(a:Int)+z:=fh;rw[e] at h1;rw[VC,BP h1,Jn l _ _ rest h.2 (by rw[<-Yq,<-Xx,hd];simp),OM h.1,Is h.1];simp[Yq]
theorem Kz (hl:l.length<=1099511627775)(h:l.all oV=H)(hd:s.data.toList.drop a=lh l.length++(nD l++rest)):iX s a=(l,(lh l.length).length+(nD l).length,H):=by
 have h1:=C8 hl hd;unfold iX;rw[h1];simp only[Xe];rw[Jn l _ [] rest h (by rw[<-Xx,hd];simp)];simp[vy]
def sI:iy:=⟨0,⟨0,0,0,[]⟩⟩
def pw (t:Int)(l:D Int):iy:=⟨t,⟨(l[0]?).getD 0,(l[1]?).getD 0,(l[2]?).getD 0,l.drop 3⟩⟩
def qU (s:G):iy × Bool:=
 if (iX s (iN s 0).2.1).2.2=H/\3<=(iX s (iN s 0).2.1).1.length/\li (pw (iN s 0).1 (iX s (iN s 0).2.1).1)=s then (pw (iN s 0).1 (iX s (iN s 0).2.1).1,H) else (sI,M)
theorem JR (h1:(iX s (iN s 0).2.1).2.2=H)(h2:3<=(iX s (iN s 0).2.1).1.length)(h2':(iX s (iN s 0).2.1).1.length<=1099511627775)(h3:li (pw (iN s 0).1 (iX s (iN s 0).2.1).1)=s) :
  (iN s 0).2.2=H/\(iN s 0).2.1+(iX s (iN s 0).2.1).2.1=s.size:=by
 obtain⟨t,z,ok,hd⟩:∃ t z ok,iN s 0=(t,z,ok):=⟨_,_,_,rfl⟩
 rw[hd] at h1 h2 h2' h3 |-;simp only at h1 h2 h2' h3 |-;obtain⟨l,n,a7,hu⟩:∃ l n a7,iX s z=(l,n,a7):=⟨_,_,_,rfl⟩
 rw[hu] at h1 h2 h2' h3 |-;simp only at h1 h2 h2' h3 |-;subst h1;unfold li at h3;split at h3
 ·rename_i a3
  have hl:[(pw t l).gg.Pc,(pw t l).gg.Sp,(pw t l).gg.Fp]++(pw t l).gg.gK=l:=by
   match l,h2 with
   | a::b::c::r,_=>rfl
  have a8:((pw t l).gg.Pc::(pw t l).gg.Sp::(pw t l).gg.Fp::(pw t l).gg.gK)=l:=hl;simp only[mY,ut,Vt] at a3;obtain⟨k1,⟨k2,k3⟩,k4,k5,k6⟩:=a3
  have a0:l.all oV=H:=by
   rw[<-hl];simp only[XU,List.all_cons,List.all_nil,Zh,Vt];have a4:=zr.1 k4;have a2:=zr.1 k2;exact⟨⟨pU fh fh,pU fh fh,k5⟩,k6⟩
  rw[a8] at h3
  have ht:t<=1099511627775:=by
   have a1:=zr.1 k1;have:((pw t l).ij:Int)=t:=rfl;omega
  have hs:s.data.toList=lh t++(lh l.length++(nD l++[])):=by
   rw[<-h3];have e1:(jq (pw t l).ij).data.toList=lh t:=zH ht
   have e2:(kJ l).data.toList=lh l.length++nD l:=by
    unfold kJ;rw[a0,Vs rfl];show (jq l.length).data.toList++nD l=_;rw[zH h2']
   rw[Xa,XJ,e1,e2,Wu]
  have a5:=C8 (s:=s) (a:=0) ht hs;rw[show ((0:Nat):Int)=0 from rfl,hd] at a5;simp only[Xd] at a5;obtain⟨_,hz,a3⟩:=a5;have a6:=Kz (s:=s) (a:=z) (rest:=[]) h2' a0 (by rw[hs,hz];simp);rw[hu] at a6;simp only[Xd] at a6;refine⟨a3,?_⟩;have a9:s.size=s.data.toList.length:=by rw[Wg];rfl
  rw[a6.2.1,a9,hs,hz];simp
 ·exfalso
  have:iN s 0=(0,0,M):=by rw[<-h3];rfl
  rw[hd] at this;simp only[Xd] at this;rw[this.2.1,<-h3] at hu;have hq:iX (⟨#[]⟩:G) (0:Nat)=([],0,M):=rfl;rw[hq] at hu;simp at hu
def zZ:D fX->Int->D Int
 | [],a=>[a]
 | x::r,a=>a::zZ r (a+zK x.Op.Code)
def lY (iL:D Int)(k:Nat)(x:fX):gC:=
 ⟨iL.getD k 0,if x.Op.Code=10∨x.Op.Code=11 then { x with Op:=⟨x.Op.Code,iL.getD x.Op.iz.toNat 0-iL.getD (k+1) 0⟩ } else x⟩
def tr (iL:D Int):D fX->Nat->D gC
 | [],_=>[]
 | x::r,k=>lY iL k x::tr iL r (k+1)
def nX:D fX->Int->Int
 | [],a=>a
 | x::r,a=>nX r (a+zK x.Op.Code)
def jZ (fx:D fX)(a:Int):D gC:=tr (zZ fx a) fx 0
def nU (b:gP)(f image:Int):Bool:=if b.ic=H then decide (f % 2=image) else decide (image=0)
def pe (p:D fB)(b:gP)(image:Int):Nat->Nat->Int->D gC
 | 0,_,_=>[]
 | n+1,f,a=>if nU b f image=H then jZ (zx p b f) a++pe p b image n (f+1) (nX (zx p b f) a) else pe p b image n (f+1) a
def lP (p:D fB)(b:gP)(image:Int):D gC:=
 if zA p=H/\kC b=H/\gE image 0 1=H then pe p b image (zn p).length 0 0 else []
def lj (x:mT):Bool:=gE x.Code 0 17 && (if (jg x.Code).2=H then gE x.iz (-(2 ^ (8*(jg x.Code).1-1))) (2 ^ (8*(jg x.Code).1-1)-1) else gE x.iz 0 (2 ^ (8*(jg x.Code).1)-1))
def pj (n:Int):UInt8:=WT (n % 256).toNat
def qi (a:Int):Nat->Nat->D UInt8
 | 0,_=>[]
 | n+1,k=>pj (a / 2 ^ (8*k))::qi a n (k+1)
def jV (x:mT):G:=if lj x=H then ⟨(pj x.Code::qi x.iz (jg x.Code).1 0).toArray⟩ else iK
def kX (p:D fB)(k:Int):G:=((p[k.toNat]?).map fB.fJ).getD iK
def rY (jR:D fR)(n:Int):D fR:=match jR.getLast? with
 | none=>jR
 | some x=>jR.dropLast++[{ x with iG:=n-x.fA }]
def pd (p:D fB)(i:ii)(x:gC):ii:=
 let jR:=if x.fE.Op.Code=13∨x.fE.Op.Code=15/\lC p x.fE.fZ=0 then i.fq++[⟨kX p x.fE.fZ,x.fN,0⟩] else i.fq
 let code:=i.Code++jV x.fE.Op
 ⟨code,rY jR code.size⟩
def zP (p:D fB)(b:gP)(image:Int):ii:=(lP p b image).foldl (pd p) ⟨iK,[]⟩
def rV (out:D iF)(x:gC):D iF:=
 let r:iF:=⟨x.fN,x.fN+zK x.fE.Op.Code,x.fE.fU,x.fE.fT⟩
 match out.getLast? with
 | none=>out++[r]
 | some q=>if q.iD=r.fA/\q.Frame=r.Frame/\q.fT=r.fT then out.dropLast++[{ q with iD:=r.iD }] else out++[r]
def sd (l:D gC):Bool:=l.all fun x=>gE x.fN 0 1000000
def qM (l:D gC):D iF:=if sd l=H then l.foldl rV [] else []
def tu:N fX->D gC->D jk
 | _,[]=>[]
 | q,x::r=>(match q with
  | some y=>if x.fE.fA=M/\y.fA=M/\y.fZ=x.fE.fZ then [] else [⟨x.fN,x.fE.fZ,x.fE.fA⟩]
  | none=>[⟨x.fN,x.fE.fZ,x.fE.fA⟩])++tu (F x.fE) r
def uy (l:D gC):D jk:=tu I l
def yu:D fB->Nat->G->G
 | [],_,s=>s
 | _,0,s=>s
 | x::r,n+1,s=>yu r n (if x.fC=0 then x.fJ else s)
def rv (p:D fB)(k:Int):G:=if 0<=k/\k<p.length then yu p (k.toNat+1) iK else iK
def mA (p:D fB)(x:fX)(level:Nat):G:=if level+1<x.fP.length then rv p (x.fP.getD (level+1) 0) else rv p x.fZ
def rE (p:D fB)(level:Nat)(ft:D Int)(name:G)(y:gC):Bool:=
 decide (level<y.fE.fP.length) && (decide (y.fE.fP.take (level+1)=ft.take (level+1)) && decide (mA p y.fE level=name))
def pS (p:D fB)(level:Nat):Nat->D gC->D gL
 | 0,_=>[]
 | _+1,[]=>[]
 | n+1,x::r=>if level<x.fE.fP.length then
   let run:=r.takeWhile (rE p level x.fE.fP (mA p x.fE level))
   let last:=(x::run).getLast (by simp)
   ⟨x.fN,last.fN+zK last.fE.Op.Code,level,x.fE.fP.getD level 0,mA p x.fE level⟩::pS p level n (r.drop run.length)
  else pS p level n r
def vk (l:D gC):Nat:=l.foldl (fun n x=>max n x.fE.fP.length) 0
def nZ (p:D fB)(l:D gC):D gL:=
 if zA p=H/\sd l=H then (List.range (vk l)).flatMap fun level=>pS p level l.length l else []
def qI (p:D fB)(b:gP)(image:Int):iB:=
 if zA p=H/\kC b=H/\gE image 0 1=H then
  ⟨oD (zP p b image).Code (zP p b image).Code.size,(zP p b image).fq,qM (lP p b image),uy (lP p b image),nZ p (lP p b image)⟩
 else ⟨0,[],[],[],[]⟩
def ui (b:Bool):Int:=if b=H then 1 else 0
def sB:D iF->Int->D Int
 | [],_=>[]
 | r::l,last=>(r.fA-last)::(r.iD-r.fA)::ui r.Frame::r.fT::sB l r.iD
def rr (l:D iF):G:=if sM 0 l=H then kJ (sB l 0) else iK
def oZ:D Int->Int->D iF
 | a::b::c::d::l,last=>⟨last+a,last+a+b,decide (c=1),d⟩::oZ l (last+a+b)
 | _,_=>[]
def qD (s:G):D iF × Bool:=
 if (iX s 0).2.2=H/\(iX s 0).2.1=s.size/\(iX s 0).1.length % 4=0 then
  (if rr (oZ (iX s 0).1 0)=s then (oZ (iX s 0).1 0,H) else ([],M))
 else ([],M)
def sH:D jk->Int->Int->D Int
 | [],_,_=>[]
 | r::l,o,n=>(r.fN-o)::(r.fZ-n)::ui r.fA::sH l r.fN r.fZ
def rC (l:D jk):G:=if sQ (-1) l=H then kJ (sH l 0 0) else iK
def pD:D Int->Int->Int->D jk
 | a::b::c::l,o,n=>⟨o+a,n+b,decide (c=1)⟩::pD l (o+a) (n+b)
 | _,_,_=>[]
def qK (s:G):D jk × Bool:=
 if (iX s 0).2.2=H/\(iX s 0).2.1=s.size/\(iX s 0).1.length % 3=0 then
  (if rC (pD (iX s 0).1 0 0)=s then (pD (iX s 0).1 0 0,H) else ([],M))
 else ([],M)
def AT (x:gL):G:=kJ [x.fA,x.iD,x.gJ,x.fZ]++se x.fJ
def tH:D gL->G->G
 | [],s=>s
 | x::l,s=>tH l (s++AT x)
def qO (l:D gL):G:=if yA l=H then tH l (jq l.length) else iK
def nG (s:G):Nat->Nat->D gL->N (D gL × Nat)
 | 0,a,acc=>F (acc,a)
 | n+1,a,acc=>match iX s a with
  | ([x,y,z,u],m,H)=>if (lk s (a+m:Nat)).2.2=H then nG s n (a+m+(lk s (a+m:Nat)).2.1) (acc++[⟨x,y,z,u,(lk s (a+m:Nat)).1⟩]) else I
  | _=>I
def ph (s:G):D gL × Bool:=
 if (iN s 0).2.2=H then match nG s (iN s 0).1 (iN s 0).2.1 [] with
  | some (l,_)=>if qO l=s then (l,H) else ([],M)
  | none=>([],M)
 else ([],M)
def wo (s:G):Int:=(s.data.toList.map fun b=>(b.toNat:Int)).sum
def yS (x:fR):G:=se x.fJ++kJ [x.fA,x.iG]
def uC:D fR->G->G
 | [],s=>s
 | x::l,s=>uC l (s++yS x)
def uD (x:fR):Bool:=gE x.fA 0 1000000 && gE x.iG 0 1000000
def vj (d:iB):G:=uC d.fq (jq d.Id++jq d.fq.length)++(se (rr d.gY)++se (rC d.gz)++se (qO d.gk))
def oM (d:iB):G:=
 if gE d.Id 0 1099511627775=H/\sM 0 d.gY=H/\sQ (-1) d.gz=H/\yA d.gk=H/\d.fq.all uD=H then vj d++jq (wo (vj d)) else iK
def nS (s:G):Nat->Nat->D fR->N (D fR × Nat)
 | 0,a,acc=>F (acc,a)
 | n+1,a,acc=>if (lk s a).2.2=H then match iX s (a+(lk s a).2.1:Nat) with
  | ([x,y],m,H)=>nS s n (a+(lk s a).2.1+m) (acc++[⟨(lk s a).1,x,y⟩])
  | _=>I
  else I
def po (s:G):Nat->Nat->D G->N (D G × Nat)
 | 0,a,acc=>F (acc,a)
 | n+1,a,acc=>if (lk s a).2.2=H then po s n (a+(lk s a).2.1) (acc++[(lk s a).1]) else I
def yH:iB:=⟨0,[],[],[],[]⟩
def LJ (id:Int)(jR:D fR):D G->N iB
 | [x,y,z]=>if (qD x).2=H/\(qK y).2=H/\(ph z).2=H then F ⟨id,jR,(qD x).1,(qK y).1,(ph z).1⟩ else I
 | _=>I
def Cb (s:G):N iB:=
 if (iN s 0).2.2=H/\(iN s (iN s 0).2.1).2.2=H then
  match nS s (iN s (iN s 0).2.1).1 ((iN s 0).2.1+(iN s (iN s 0).2.1).2.1) [] with
  | some (jR,a)=>match po s 3 a [] with
   | some (ps,_)=>LJ (iN s 0).1 jR ps
   | none=>I
  | none=>I
 else I
def sK (s:G):iB × Bool:=match Cb s with
 | some d=>if oM d=s then (d,H) else (yH,M)
 | none=>(yH,M)
theorem OJ {xs:D iF} {r:iF} (h:xs[k]?=F r)(last:Int):sB (xs.drop k) last=(r.fA-last)::(r.iD-r.fA)::ui r.Frame::r.fT::sB (xs.drop (k+1)) r.iD:=by
 obtain⟨h1,rfl⟩:=Vh.1 h;rw[VB h1];rfl
theorem PC {xs:D jk} (h:xs[k]?=F r)(o n:Int):sH (xs.drop k) o n=(r.fN-o)::(r.fZ-n)::ui r.fA::sH (xs.drop (k+1)) r.fN r.fZ:=by
 obtain⟨h1,rfl⟩:=Vh.1 h;rw[VB h1];rfl
theorem uY {α:Type} {l:D α} {a:α} (h:l[k]?=F a):l.drop k=a::l.drop (k+1):=by
 obtain⟨h1,rfl⟩:=Vh.1 h;exact VB h1
theorem NM {a b c:Int} (h0:l[k]?=F a)(h1:l[k+1]?=F b)(h2:l[k+2]?=F c)(h3:l[k+3]?=F d)(last:Int):oZ (l.drop k) last=⟨last+a,last+a+b,decide (c=1),d⟩::oZ (l.drop (k+4)) (last+a+b):=by
 rw[uY h0,uY h1,uY h2,uY h3];rfl
theorem OI {a b c:Int} (h0:l[k]?=F a)(h1:l[k+1]?=F b)(h2:l[k+2]?=F c)(o n:Int):pD (l.drop k) o n=⟨o+a,n+b,decide (c=1)⟩::pD (l.drop (k+3)) (o+a) (n+b):=by
 rw[uY h0,uY h1,uY h2];rfl
theorem RU {xs:D gL} {x:gL} (h:xs[k]?=F x)(s:G):tH (xs.drop k) s=tH (xs.drop (k+1)) (s++AT x):=by
 rw[uY h];rfl
theorem Tt {xs:D fR} {x:fR} (h:xs[k]?=F x)(s:G):uC (xs.drop k) s=uC (xs.drop (k+1)) (s++yS x):=by
 rw[uY h];rfl
theorem nY (a b:G):(a++b).size=a.size+b.size:=V5
theorem BH (l:D Int):(kJ l).size<=6+6*l.length:=by
 unfold kJ;split
 ·rw[FZ,Vk,yO]
  have h1:=pA l.length;have h2:=Jx l l.length;rw[WG] at h2;omega
 ·exact Vu _
theorem vd (s:G):(se s).size<=6+s.size:=by
 unfold se;rw[nY];have:=pA s.size;omega
theorem GF:∀(l:D iF)(a:Int),(sB l a).length=4*l.length
 | [],_=>rfl
 | r::l,a=>by simp only[sB,VC,GF l];omega
theorem Ib:∀(l:D jk)(a b:Int),(sH l a b).length=3*l.length
 | [],_,_=>rfl
 | r::l,a,b=>by simp only[sH,VC,Ib l];omega
theorem Gv (l:D iF):(rr l).size<=6+24*l.length:=by
 unfold rr;split
 ·have:=BH (sB l 0)
  rw[GF] at this;omega
 ·exact Vu _
theorem GK (l:D jk):(rC l).size<=6+18*l.length:=by
 unfold rC;split
 ·have:=BH (sH l 0 0)
  rw[Ib] at this;omega
 ·exact Vu _
theorem Fa (h:mN s=H):s.size<=8:=by
 unfold mN at h;rw[Vt] at h;have:=zr.1 h.2;omega
theorem Rc (x:gL):(AT x).size<=36+x.fJ.size:=by
 unfold AT;rw[nY];have h1:=BH [x.fA,x.iD,x.gJ,x.fZ];have h2:=vd x.fJ;simp only[VC,VZ] at h1;omega
theorem FB {xs:D gL}:∀(l:D gL)(k:Nat),yN xs k l=H->∀ x∈l,mN x.fJ=H
 | [],_,_,x,hx=>absurd hx gm
 | y::l,k,h,x,hx=>by
  rw[yN,Vt] at h;rcases VT.1 hx with rfl | hx
  ·have h1:=h.1
   unfold m9 lF at h1;simp only[Vt] at h1;exact h1.1.1.2
  ·exact FB l (k+1) h.2 x hx
theorem IB:∀(l:D gL)(s:G),(∀ x∈l,mN x.fJ=H)->s.size<=(tH l s).size/\(tH l s).size<=s.size+44*l.length
 | [],s,_=>⟨Vz _,by simp[tH]⟩
 | x::l,s,h=>by
  have h1:=IB l (s++AT x) (fun y hy=>h y (WH _ hy));rw[nY] at h1;have h2:=Rc x;have h3:=Fa (h x WW);simp only[tH,VC];omega
theorem GZ (l:D gL):(qO l).size<=6+44*l.length:=by
 unfold qO;split
 ·rename_i h
  have h1:=(IB l (jq l.length) (FB l 0 h)).2;have h2:=pA l.length;omega
 ·exact Vu _
def nH (l:D fR):Nat:=(l.map fun x=>x.fJ.size+24).sum
theorem Q6 (a b:D fR):nH (a++b)=nH a+nH b:=by simp[nH]
theorem Q7 (l:D fR):24*l.length<=nH l:=by
 induction l with
 | nil=>simp[nH]
 | cons x l ih=>simp only[nH,WD,Xz,VC] at ih |-;omega
theorem Q8 {l:D fR} {x:fR} (h:x∈l):x.fJ.size<=nH l:=by
 induction l with
 | nil=>cases h
 | cons y l ih=>
  simp only[nH,WD,Xz] at ih |-;rcases VT.1 h with rfl | h
  ·omega
  ·have:=ih h;omega
theorem Q5 (x:fR):(yS x).size<=x.fJ.size+24:=by
 unfold yS;rw[nY];have h1:=BH [x.fA,x.iG];have h2:=vd x.fJ;simp only[VC,VZ] at h1;omega
theorem CL:∀(l:D fR)(s:G),s.size<=(uC l s).size/\(uC l s).size<=s.size+nH l
 | [],s=>⟨Vz _,X4 _ _⟩
 | x::l,s=>by
  have h1:=CL l (s++yS x);rw[nY] at h1;have h2:=Q5 x;simp only[uC,nH,WD,Xz] at h1 |-;omega
theorem N0 (d:iB):(vj d).size<=60+nH d.fq+24*d.gY.length+18*d.gz.length+44*d.gk.length:=by
 unfold vj;simp only[nY];have h1:=(CL d.fq (jq d.Id++jq d.fq.length)).2;rw[nY] at h1;have h2:=pA d.Id;have h3:=pA d.fq.length;have h4:=vd (rr d.gY);have h5:=vd (rC d.gz);have h6:=vd (qO d.gk);have h7:=Gv d.gY;have h8:=GK d.gz;have h9:=GZ d.gk;omega
theorem Ky {s:G}{a:Nat}:∀(c z:Nat)(acc:D Int)(l:D Int)(n:Nat),a+z<=s.size->nW s a c z acc=F (l,n)->(∀ x∈acc,-1099511627776<=x/\x<=1099511627776)->z<=n/\a+n<=s.size/\l.length+z=acc.length+c+z/\c+z<=n/\∀ x∈l,-1099511627776<=x/\x<=1099511627776
 | 0,z,acc,l,n,hz,h,ha=>by
  simp only[nW,VO,Xd] at h;obtain⟨rfl,rfl⟩:=h;exact⟨Vz _,hz,rfl,fh,ha⟩
 | c+1,z,acc,l,n,hz,h,ha=>by
  obtain⟨m,t,ok,hp⟩:∃ m t ok,iN s ((a:Int)+z)=(m,t,ok):=⟨_,_,_,rfl⟩
  rw[nW,hp] at h;cases ok with
  | false=>simp at h
  | true=>
   simp only[Xe] at h;have hb:=pa hp
   have:=Ky c (z+t) (acc++[signed m]) l n fh h (fun x hx=>by
    rcases VA.1 hx with hx | hx
    ·exact ha x hx
    ·rw[Vi.1 hx];exact uU m)
   rw[Vk,Wi] at this;refine⟨fh,this.2.1,fh,fh,this.2.2.2.2⟩
theorem vT (h:iX s a=(l,z,H)):1<=z/\a+z<=s.size/\l.length<z/\∀ x∈l,-1099511627776<=x/\x<=1099511627776:=by
 obtain⟨m,t,ok,hp⟩:∃ m t ok,iN s (a:Int)=(m,t,ok):=⟨_,_,_,rfl⟩
 unfold iX at h;rw[hp] at h;cases ok with
 | false=>simp at h
 | true=>
  simp only[Xe] at h;have hb:=pa hp;cases hg:nW s a m t [] with
  | none=>rw[hg] at h;simp[vy] at h
  | some p=>
   obtain⟨l',n⟩:=p;rw[hg] at h;simp only[vy,Xd,XR] at h;obtain⟨rfl,rfl⟩:=h;have:=Ky m t [] l' n fh hg gm;simp only[VZ,VJ] at this;exact⟨fh,this.2.1,fh,this.2.2.2.2⟩
theorem tQ {g:Prop} (f:g:=by
  split at h
  ·cases h
  ·injection h with h1 h2
   injection h2 with h2 _
   exact⟨h1.symm,h2.symm⟩):g:=f
theorem Dy {a:Int} (h:iX s a=(l,z,M)):l = []/\z=0:=by
 unfold iX at h;split at h
 ·unfold vy at h
  exact tQ
 ·injection h with h1 h2
  injection h2 with h2 _
  exact⟨h1.symm,h2.symm⟩
theorem vU (h:lk s a=(t,z,H)):1<=z/\a+z<=s.size/\t.size<=z:=by
 obtain⟨n,y,ok,hp⟩:∃ n y ok,iN s a=(n,y,ok):=⟨_,_,_,rfl⟩
 unfold lk at h;rw[hp] at h;cases ok with
 | false=>simp at h
 | true=>
  obtain⟨h1,h2,h3,h4,h5⟩:=pa hp;by_cases hf:n<=s.size-a-y
  ·simp only[XX,Vy,VD,hf,Xe,Xd,XR] at h
   obtain⟨rfl,rfl⟩:=h;refine⟨fh,fh,?_⟩;rw[YM];omega
  ·simp[hf] at h
theorem LH {a:Int} (h:lk s a=(t,z,M)):t=iK/\z=0:=by
 unfold lk at h;exact tQ
theorem JB (h:iX s a=(l,m,M)):nG s (n+1) a acc=I:=by
 obtain⟨rfl,rfl⟩:=Dy h;rw[nG,h]
theorem JC (h:iX s a=(l,m,H))(h2:lk s (a+m:Nat)=(t,z,M)):nG s (n+1) a acc=I:=by
 rw[nG,h];split
 ·rename_i hh
  injection hh with h3 h4
  injection h4 with h4 _
  subst h4;rw[h2];rfl
 ·rfl
theorem JD (h:iX s a=(l,m,H))(h2:l.length≠4):nG s (n+1) a acc=I:=by
 rw[nG,h];split
 ·rename_i hh
  injection hh with h3 h4
  subst h3;exact absurd rfl h2
 ·rfl
theorem KC {x z u:Int} (h:iX s a=([x,y,z,u],m,H))(h2:lk s (a+m:Nat)=(t,k,H)):nG s (n+1) a acc=nG s n (a+m+k) (acc++[⟨x,y,z,u,t⟩]):=by
 rw[nG,h];simp only;rw[h2];rfl
theorem I4 {acc:D fR} (h:lk s a=(t,m,M)):nS s (n+1) a acc=I:=by
 rw[nS,h];rfl
theorem I5 {acc:D fR} (h:lk s a=(t,m,H))(h2:iX s (a+m:Nat)=(l,z,M)):nS s (n+1) a acc=I:=by
 obtain⟨rfl,rfl⟩:=Dy h2;rw[nS,h];simp only[Xe];rw[h2]
theorem I6 {acc:D fR} (h:lk s a=(t,m,H))(h2:iX s (a+m:Nat)=(l,z,H))(h3:l.length≠2):nS s (n+1) a acc=I:=by
 rw[nS,h];simp only[Xe];rw[h2];split
 ·rename_i hh
  injection hh with h4 h5
  subst h4;exact absurd rfl h3
 ·rfl
theorem JE {acc:D fR} {x:Int} (h:lk s a=(t,m,H))(h2:iX s (a+m:Nat)=([x,y],z,H)):nS s (n+1) a acc=nS s n (a+m+z) (acc++[⟨t,x,y⟩]):=by
 rw[nS,h];simp only[Xe];rw[h2]
theorem KZ {acc:D G} (h:lk s a=(t,z,M)):po s (n+1) a acc=I:=by rw[po,h];rfl
theorem K3 {acc:D G} (h:lk s a=(t,z,H)):po s (n+1) a acc=po s n (a+z) (acc++[t]):=by rw[po,h];rfl
theorem four (h:l.length=4):∃ x y z u,l = [x,y,z,u]:=by
 match l,h with
 | [x,y,z,u],_=>exact⟨_,_,_,_,rfl⟩
theorem two (h:l.length=2):∃ x y,l = [x,y]:=by
 match l,h with
 | [x,y],_=>exact⟨_,_,rfl⟩
theorem N1 (s:G):(qD s).1.length<=s.size:=by
 unfold qD
 have a0:∀(n:Nat) (l:D Int) (a:Int),l.length<=n->(oZ l a).length<=n:=by
  intro n;induction n with
  | zero=>intro l a h;cases l with
   | nil=>simp[oZ]
   | cons x l=>simp at h
  | succ n ih=>
   intro l a h
   match l,h with
   | [],_=>simp[oZ]
   | [_],_=>simp[oZ]
   | [_,_],_=>simp[oZ]
   | [_,_,_],_=>simp[oZ]
   | x::y::z::u::l,h=>
    simp only[oZ,VC] at h |-;have:=ih l (a+x+y) fh;omega
 split
 ·rename_i h
  split
  ·obtain⟨l,z,ok,hp⟩:∃ l z ok,iX s (0:Nat)=(l,z,ok):=⟨_,_,_,rfl⟩
   have h0:=h.1;have e:iX s 0=iX s ((0:Nat):Int):=rfl;rw[e,hp] at h0 |-;simp only at h0;subst h0;have:=vT hp;have h2:=a0 l.length l 0 (Vz _);show (oZ l 0).length<=s.size;omega
  ·exact Vu _
 ·exact Vu _
theorem Oz (s:G):(qK s).1.length<=s.size:=by
 unfold qK
 have a0:∀(n:Nat) (l:D Int) (a b:Int),l.length<=n->(pD l a b).length<=n:=by
  intro n;induction n with
  | zero=>intro l a b h;cases l with
   | nil=>simp[pD]
   | cons x l=>simp at h
  | succ n ih=>
   intro l a b h
   match l,h with
   | [],_=>simp[pD]
   | [_],_=>simp[pD]
   | [_,_],_=>simp[pD]
   | x::y::z::l,h=>
    simp only[pD,VC] at h |-;have:=ih l (a+x) (b+y) fh;omega
 split
 ·rename_i h
  split
  ·obtain⟨l,z,ok,hp⟩:∃ l z ok,iX s (0:Nat)=(l,z,ok):=⟨_,_,_,rfl⟩
   have h0:=h.1;have e:iX s 0=iX s ((0:Nat):Int):=rfl;rw[e,hp] at h0 |-;simp only at h0;subst h0;have:=vT hp;have h2:=a0 l.length l 0 0 (Vz _);show (pD l 0 0).length<=s.size;omega
  ·exact Vu _
 ·exact Vu _
theorem JA {s:G}:∀(n a:Nat)(acc l:D gL)(b:Nat),a<=s.size->nG s n a acc=F (l,b)->a<=b/\b<=s.size/\l.length+a<=acc.length+b
 | 0,a,acc,l,b,ha,h=>by
  simp only[nG,VO,Xd] at h;obtain⟨rfl,rfl⟩:=h;omega
 | n+1,a,acc,l,b,ha,h=>by
  obtain⟨q,m,ok,hp⟩:∃ q m ok,iX s (a:Int)=(q,m,ok):=⟨_,_,_,rfl⟩
  cases ok with
  | false=>rw[JB hp] at h;cases h
  | true=>
   obtain⟨t,k,ok,hq⟩:∃ t k ok,lk s (a+m:Nat)=(t,k,ok):=⟨_,_,_,rfl⟩
   cases ok with
   | false=>rw[JC hp hq] at h;cases h
   | true=>
    by_cases h4:q.length=4
    ·obtain⟨x,y,z,u,rfl⟩:=four h4
     rw[KC hp hq] at h;have h5:=vT hp;have h6:=vU hq;have:=JA n (a+m+k) _ l b fh h;rw[Vk,Wi] at this;omega
    ·rw[JD hp h4] at h;cases h
theorem Pw (s:G):(ph s).1.length<=s.size:=by
 unfold ph;split
 ·rename_i h0
  obtain⟨n,z,ok,hp⟩:∃ n z ok,iN s 0=(n,z,ok):=⟨_,_,_,rfl⟩
  rw[hp] at h0 |-;simp only at h0 |-;subst h0;have hb:=pa hp;cases hr:nG s n z [] with
  | none=>exact Vu _
  | some p=>
   obtain⟨l,b⟩:=p;have:=JA n z [] l b fh hr;simp only[VZ] at this;simp only;split
   ·show l.length<=s.size;omega
   ·exact Vu _
 ·exact Vu _
theorem I3 {s:G}:∀(n a:Nat)(acc l:D fR)(b:Nat),a<=s.size->nS s n a acc=F (l,b)->a<=b/\b<=s.size/\nH l+13*a<=nH acc+13*b
 | 0,a,acc,l,b,ha,h=>by
  simp only[nS,VO,Xd] at h;obtain⟨rfl,rfl⟩:=h;omega
 | n+1,a,acc,l,b,ha,h=>by
  obtain⟨t,m,ok,hp⟩:∃ t m ok,lk s (a:Int)=(t,m,ok):=⟨_,_,_,rfl⟩
  cases ok with
  | false=>rw[I4 hp] at h;cases h
  | true=>
   obtain⟨q,k,ok,hq⟩:∃ q k ok,iX s (a+m:Nat)=(q,k,ok):=⟨_,_,_,rfl⟩
   cases ok with
   | false=>rw[I5 hp hq] at h;cases h
   | true=>
    by_cases h4:q.length=2
    ·obtain⟨x,y,rfl⟩:=two h4
     rw[JE hp hq] at h;have h5:=vU hp;have h6:=vT hq;have:=I3 n (a+m+k) _ l b fh h;rw[Q6] at this;simp only[nH,WD,List.map_nil,Xz,List.sum_nil] at this |-;omega
    ·rw[I6 hp hq h4] at h;cases h
theorem KD {s:G}:∀(n a:Nat)(acc l:D G)(b:Nat),a<=s.size->po s n a acc=F (l,b)->a<=b/\b<=s.size/\l.length=acc.length+n/\((∀ t∈acc,t.size<=s.size)->∀ t∈l,t.size<=s.size)
 | 0,a,acc,l,b,ha,h=>by
  simp only[po,VO,Xd] at h;obtain⟨rfl,rfl⟩:=h;exact⟨Vz _,ha,rfl,fun h=>h⟩
 | n+1,a,acc,l,b,ha,h=>by
  obtain⟨t,m,ok,hp⟩:∃ t m ok,lk s (a:Int)=(t,m,ok):=⟨_,_,_,rfl⟩
  cases ok with
  | false=>rw[KZ hp] at h;cases h
  | true=>
   rw[K3 hp] at h;have h5:=vU hp;have:=KD n (a+m) _ l b fh h;rw[Vk,Wi] at this;refine⟨fh,this.2.1,fh,fun hh=>this.2.2.2 (fun u hu=>?_)⟩;rcases VA.1 hu with hu | hu
   ·exact hh u hu
   ·rw[Vi.1 hu];omega
theorem Pn (h:l.all oV=H)(hl:l.length<=1099511627775):(kJ l).data.toList=lh l.length++nD l:=by
 unfold kJ;rw[Vs h,zH hl]
theorem RE (hl:l.length<=1099511627775)(h:l.all oV=H)(hd:s.data.toList.drop a=(kJ l).data.toList++rest):iX s a=(l,(kJ l).data.toList.length,H)/\s.data.toList.drop (a+(kJ l).data.toList.length)=rest:=by
 have a0:s.data.toList.drop (a+(kJ l).data.toList.length)=rest:=by rw[<-Xx,hd,Yg]
 refine⟨?_,a0⟩;rw[Pn h hl] at hd |-;rw[VM] at hd;rw[Kz hl h hd,Vk]
theorem IW (a b:G):(a++b).data.toList=a.data.toList++b.data.toList:=by rw[Xa,XJ]
theorem Tm {p:Int}:wh p r=H↔(0<=r.fN/\r.fN<=1000000)/\(0<=r.fZ/\r.fZ<=59)/\p<r.fN:=by
 unfold wh;rw[Vt,Vt,zr,zr,VD,Zp]
def pq (l l':D fX):Prop:=∀ x,l[0]?=F x->∃ y,l'[0]?=F y/\y.fZ=x.fZ
theorem pq.refl (l:D fX):pq l l:=fun x h=>⟨x,h,rfl⟩
theorem pq.trans {a b c:D fX}(h:pq a b)(k:pq b c):pq a c:=fun x hx=>by
 obtain⟨y,h1,h2⟩:=h x hx;obtain⟨z,h3,h4⟩:=k y h1;exact⟨z,h3,h4.trans h2⟩
theorem pq.l5 (l r:D fX):pq l (l++r):=fun x h=>⟨x,by rw[Wh (Vh.1 h).1];exact h,rfl⟩
theorem pq.set (l:D fX)(j:Nat)(v:Int):pq l (mO l j v):=fun x h=>by
 unfold mO;cases hy:l[j]? with
 | none=>exact⟨x,h,rfl⟩
 | some y=>
  simp only;by_cases hj:j=0
  ·subst hj
   rw[h] at hy;injection hy with hy
   subst hy;exact⟨{ x with Op:=⟨x.Op.Code,v⟩ },by rw[WU (Vh.1 h).1],rfl⟩
  ·exact⟨x,by rw[Wy hj];exact h,rfl⟩
theorem Hr:∀(js:D Int)(l:D fX)(v:Int),pq l (oJ l js v)
 | [],l,v=>.refl l
 | j::js,l,v=>(pq.set l j.toNat v).trans (Hr js _ v)
theorem ET:∀(es:D (Int × Int))(l:D fX)(tgt v:Int),pq l (n9 l es tgt v)
 | [],l,tgt,v=>.refl l
 | e::es,l,tgt,v=>by
  unfold n9;simp only[XC];split
  ·exact(pq.set l e.2.toNat v).trans (ET es _ tgt v)
  ·exact ET es l tgt v
structure kM (Ve w:Nat)(m m':gA):Prop where
 cnt:max m'.fx.length Ve<=max m.fx.length Ve+w
 fst:pq m.fx m'.fx
theorem kM.refl {Ve:Nat}(m:gA):kM Ve 0 m m:=⟨fh,.refl _⟩
theorem kM.trans {Ve w v:Nat}{a b c:gA}(h:kM Ve w a b)(k:kM Ve v b c):kM Ve (w+v) a c:=⟨by have:=h.cnt;have:=k.cnt;omega,h.fst.trans k.fst⟩
theorem kM.more {w v:Nat} {a b:gA} (h:kM Ve w a b)(hv:w<=v):kM Ve v a b:=⟨by have:=h.cnt;omega,h.fst⟩
theorem kM.of {w:Nat} {a b:gA} (h:b.fx.length<=a.fx.length+w)(hf:pq a.fx b.fx):kM Ve w a b:=⟨fh,hf⟩
theorem FG (E:gw)(m:gA)(c a l:Int)(ch:D Int):kM Ve 1 m (zC E m c a l ch):=.of (by rw[yx];omega) (pq.l5 _ _)
theorem uS (E:gw)(m:gA)(c a l d:Int)(ch:D Int):kM Ve 1 m ((zC E m c a l ch).gR d):=.of (by simp only[gA.gR,yx];omega) (pq.l5 _ _)
theorem EK (E:gw)(m:gA)(v l:Int)(ch:D Int):kM Ve 1 m (mx E m v l ch):=uS ..
theorem Fk (E:gw)(m:gA)(s:fV)(i l:Int)(ch:D Int):kM Ve 1 m (ni E m s i l ch):=uS ..
theorem Sr (E:gw)(m:gA)(s:fV)(i l:Int):kM Ve 1 m (BX E m s i l):=uS ..
theorem JQ (m:gA)(es:D (Int × Int))(t:Int):kM Ve 0 m (kp m es t):=.of (by show (n9 m.fx es t m.fx.length).length<=_;rw[(sw _ _ _ _).2];omega) (ET _ _ _ _)
theorem JP (E:gw)(s:fV)(k:Int)(last:Bool)(L:jC):kM Ve 1 L.m (lH E s k last L).m:=by
 unfold lH;split
 ·split <;> exact uS ..
 ·split
  ·exact .of (by simp[jC.wm,gA.gR]) (.refl _)
  ·exact uS ..
def yP (E:gw)(rep:Int->gA->gA)(fs:D Int)(Ve:Nat):Prop:=∀(g:Int)(m:gA),kB E.p g->oH E fs m g=H->kM Ve 0 m (rep g m)
theorem Ti {E:gw} {rep:Int->gA->gA} {s:fV} {k:Int} {t:iq} {m:gA} (hr:yP E rep fs Ve)(hn:mK E.p s.fM t=H):kM Ve 1 m (pI E rep fs s k t m):=by
 unfold pI;split
 ·exact EK ..
 ·split
  ·exact Sr ..
  ·split
   ·rename_i h7
    split
    ·rename_i hrep
     obtain⟨i,x,h1,h2,h3,_⟩:=Cq hn h7;exact(hr _ m ⟨i,h1,x,h2,h3⟩ hrep).more fh
    ·exact uS ..
   ·exact uS ..
mutual
theorem Ex.lw {E:gw}{rep:Int->gA->gA}{fs:D Int}{s:fV}{k:Int}{Ve:Nat}(hr:yP E rep fs Ve):∀(e:Ex)(m:gA),zU E.p s.fM e.flat=H->kM Ve e.size m (e.comp E rep fs s k m)
 | .node t ks,m,hn=>by
  simp only[Ex.flat,zU,List.all_cons,Vt] at hn;exact((ig.lw hr ks m hn.2).trans (Ti hr hn.1)).more (by simp only[Ex.size];omega)
theorem ig.lw {E:gw}{rep:Int->gA->gA}{fs:D Int}{s:fV}{k:Int}{Ve:Nat}(hr:yP E rep fs Ve):∀(ks:ig)(m:gA),zU E.p s.fM ks.flat=H->kM Ve ks.size m (ks.comp E rep fs s k m)
 | .nil,m,_=>.refl m
 | .cons e r,m,hn=>by
  simp only[ig.flat,zU,XU,Vt] at hn;exact((Ex.lw hr e m hn.1).trans (ig.lw hr r _ hn.2)).more (by simp only[ig.size];omega)
end
theorem He {Ve:Nat}(E:gw)(x:fV)(k:Int)(ch:D Int):∀(n:Nat)(m:gA),kM Ve n m (rB E x k ch n m)
 | 0,m=>.refl m
 | n+1,m=>by
  unfold rB;exact((Fk E m x n k ch).trans (He E x k ch n _)).more fh
theorem IK {Ve:Nat}(E:gw)(x:fV)(k:Int)(ch:D Int):∀(n i:Nat)(m:gA),kM Ve (2*n) m (sN E x k ch n i m)
 | 0,i,m=>.refl m
 | n+1,i,m=>by
  unfold sN;exact(((EK E m 0 k ch).trans (Fk E _ x i k ch)).trans (IK E x k ch n (i+1) _)).more fh
theorem Qd {E:gw} (hE:iH E){g k:Int}(hg:kB E.p g)(s:fV)(m:gA):kM Ve 21 m (pX E g k s m):=by
 have hp:=hg.parts hE;have a0:(kA E g k s).fM=zu E.p g:=rfl;have h1:=He (Ve:=Ve) E (kA E g k s) k s.ft (zD E.p g).length (m.j7 (max m.most (pJ E s+(kA E g k s).fM.length)));have h2:=IK (Ve:=Ve) E (kA E g k s) k s.ft ((kA E g k s).fM.length-(zD E.p g).length) (zD E.p g).length (rB E (kA E g k s) k s.ft (zD E.p g).length (m.j7 (max m.most (pJ E s+(kA E g k s).fM.length))));have h0:kM Ve 0 m (m.j7 (max m.most (pJ E s+(kA E g k s).fM.length))):=.of (by simp[gA.j7]) (.refl _);rw[a0] at h0 h1 h2;unfold pX;simp only;rw[a0];split
 ·exact(((h0.trans h1).trans h2).trans (FG ..)).more fh
 ·exact((h0.trans h1).trans h2).more fh
theorem Sq {E:gw} {rep:Int->gA->gA} {s:fV} {L:jC} (hE:iH E)(hr:yP E rep fs Ve)(hx:E.p[k]?=F x)(h7:x.Expr.length<=7)(h0:x.fC≠0)(hn:x.fC≠7->zU E.p s.fM x.Expr=H):kM Ve 8 L.m (kV E rep fs s e k x L).m:=by
 have g0:=JQ (Ve:=Ve) L.m L.fS k;unfold kV;simp only;split
 ·exact((g0.trans (FG ..)).trans (JQ ..)).more fh
 ·rename_i k4
  split
  ·split
   ·exact((g0.trans (EK ..)).trans (JP (L:=L.wm _) ..)).more fh
   ·refine(g0.trans (?_:kM Ve 1 _ _)).more fh
    show kM Ve 1 _ (pE _ _ _ _ _ _ _);rcases Bm E k s.ft L.gj (k-(s.f.toNat+1)) (s.f.toNat+1) (kp L.m L.fS k) with⟨h,_⟩ | ⟨j,_,_,_,_,h⟩
    ·rw[h];exact(kM.refl _).more fh
    ·rw[h];exact FG ..
  ·rename_i k7
   obtain⟨ee,w1,w2,_⟩:=hE.pc.expr k x hx (CG (zr.1 (hE.pc.kind k x hx)) h0 k4 k7);have a0:ee.size<=7:=by rw[<-ee.ie,<-w2];exact h7
   have g1:=Ex.lw (k:=(k:Int)) hr ee (kp L.m L.fS k).begun (by rw[<-w2];exact hn k7);rw[<-BK w1,<-w2] at g1;have g2:kM Ve 7 L.m (tG E rep fs s k x.Expr (kp L.m L.fS k).begun):=(g0.trans (kM.trans (b:=(kp L.m L.fS k).begun) (kM.of (w:=0) (by simp[gA.begun]) (.refl _)) g1)).more fh;split
   ·exact g2.trans (Fk ..)
   ·split
    ·exact g2.trans (uS ..)
    ·split
     ·exact g2.trans (JP (L:=⟨_,_,_,_⟩) ..)
     ·exact g2.trans (uS ..)
def pi (p:D fB):Prop:=∀(i:Nat)(x:fB),p[i]?=F x->x.Expr.length<=7
theorem Qe {E:gw} {rep:Int->Int->gA->gA} {s:fV} (hE:iH E)(hS:pi E.p)(hs:iS E s)(hr:∀ k:Nat,k<E.p.length->yP E (rep k) fs Ve)(hf:s.f=(i:Int))(he:gZ E.p i e) :
  ∀(n k:Nat) (L:jC),i<k->k+n=e+1->kM Ve (8*n) L.m (oL E rep fs s e (E.p.drop k) n k L).m:=by
 intro n;induction n with
 | zero=>
  intro k L _ _;have:oL E rep fs s e (E.p.drop k) 0 k L=L:=by cases E.p.drop k <;> rfl
  rw[this];exact .refl _
 | succ n ih=>
  intro k L a4 a7;have a2:k<E.p.length:=by have:=he.len;omega
  have hx:E.p[k]?=F E.p[k]:=Vq a2;rw[VB a2];obtain⟨i',e',z,w1,w2,w3,w4,w5⟩:=hs.rP;have a6:i'=i:=by rw[hf] at w1;omega
  subst a6;have a5:=w4.kR he;subst a5;have a3:s.fM=zu E.p i':=by rw[hs.fM.1,hf]
  have a0:k=e'∨k<e':=fh
  have a1:k=e'->(E.p[k]).fC=7:=fun h=>by
   subst h;obtain⟨y,hy,h7⟩:=he.last;rw[hx] at hy;injection hy with hy
   rw[hy];exact h7
  have g1:=Sq (L:=L) (e:=e') (fs:=fs) (s:=s) hE (hr k a2) hx (hS k _ hx)
   (fun h=>by
    rcases a0 with hk | hk
    ·have:=a1 hk;omega
    ·exact(w5 k _ a4 hk hx).1 h)
   (fun h=>by
    rcases a0 with hk | hk
    ·exact absurd (a1 hk) h
    ·rw[a3];exact(w5 k _ a4 hk hx).2.1)
  exact(g1.trans (ih (k+1) _ fh fh)).more fh
def yi (d:Nat):Nat:=200+93*d
theorem kM.floor {w v:Nat} {a b:gA} (h:kM Ve w a b)(ha:a.fx.length<=v)(hb:v<=Ve):b.fx.length<=Ve+w:=by have:=h.cnt;omega
def Ft (E:gw)(lines:D Int->fV->gA->gA × D Int)(Ve:Nat)(d:Nat):Prop:=∀(fs:D Int)(s:fV)(m:gA)(i e:Nat),iS E s->fs.length=s.ft.length+1->s.ft.length+d=3->s.f=(i:Int)->gZ E.p i e->kM Ve (8*(e-i)) m (lines fs s m).1
theorem NK {E:gw} {lines:D Int->fV->gA->gA × D Int} {s:fV} {d:Nat} (hE:iH E)(hs:iS E s)(hl:Ft E lines Ve d)(hN:200<=Ve)(hfs:fs.length=s.ft.length+1)(hd:s.ft.length+(d+1)=3)(hk:k<E.p.length):yP E (fun g m=>zL E lines fs k s g m) fs (Ve+93):=by
 intro g m hg a0;have a4:=vH a0;have a3:0<=(k:Int)/\(k:Int)<E.p.length:=⟨fh,fh⟩
 have hx:=AK hE hs hg a3 fh;have g1:=Qd (Ve:=Ve) (k:=k) hE hg s m;obtain⟨i,rfl,x,a6,a5⟩:=hg;obtain⟨e,he,_,_⟩:=hE.pc.body i x a6 a5;have a2:=a4.2.1;rw[he.ju] at a2;have a1:(kA E i k s).ft.length=s.ft.length+1:=by unfold kA;simp
 have g2:=hl (fs++[(i:Int)]) (kA E i k s) (pX E i k s m) i e hx (by rw[a1];simp[hfs]) (by rw[a1];omega) rfl he;have g3:=(g1.trans g2).floor (v:=200) fh hN;unfold zL;simp only;refine⟨?_,((g1.trans g2).fst).trans (Hr _ _ _)⟩;simp only[gA.gR,gA.jH,(Bk _ _ _).2];omega
theorem IE {E:gw} (hE:iH E)(hS:pi E.p){d Ve:Nat}(hrep:∀(fs:D Int)(s:fV)(k:Nat),iS E s->fs.length=s.ft.length+1->s.ft.length+d=3->k<E.p.length->yP E (fun g m=>zL E (zX E d) fs k s g m) fs Ve):Ft E (zX E (d+1)) Ve d:=by
 intro fs s m i e hs a1 a2 hf he;have a3:=he.lt;have g1:=Qe (rep:=fun k g m=>zL E (zX E d) fs k s g m) (fs:=fs) hE hS hs (fun k hk=>hrep fs s k hs a1 a2 hk) hf he (e-i) (i+1) ⟨m,s.fI,VP E.p.length 0,[]⟩ fh fh
 have a0:(zX E (d+1) fs s m).1=(oL E (fun k g m=>zL E (zX E d) fs k s g m) fs s e (E.p.drop (i+1)) (e-i) (i+1) ⟨m,s.fI,VP E.p.length 0,[]⟩).m:=by
  show (vm E (fun fs s k g m=>zL E (zX E d) fs k s g m) fs s m).1=_;unfold vm;simp only[hf,he.ju,Vy]
 rw[a0];exact g1
theorem Ng {E:gw} (hE:iH E)(hS:pi E.p):∀ d:Nat,Ft E (zX E (d+1)) (yi d) d:=by
 intro d;induction d with
 | zero=>
  refine IE hE hS (fun fs s k hs hfs hd hk=>?_);intro g m _ a0;have h1:=(vH a0).1;have h2:=hE.inl.2;omega
 | succ d ih=>
  refine IE hE hS (fun fs s k hs hfs hd hk=>?_);have h:=NK hE hs ih (by unfold yi;omega) hfs hd hk;rw[show yi d+93=yi (d+1) from by unfold yi;omega] at h;exact h
theorem xp {g:Prop} (f:g:=by
  refine⟨⟨i,e,x,rfl,by rw[hEp];exact hx,h0,by rw[hEp];exact he,by rw[hEp];exact hbody⟩,⟨by rw[hEp],h8⟩,⟨Xv _,gm⟩,⟨gm,fun c hc=>(by cases hc)⟩,fun _=>⟨rfl,rfl,by rw[hEa];simp only;omega⟩⟩):g:=f
theorem NX (hp:lq p)(hS:pi p)(hb:gE b.gN 0 3=H)(hf:f<(zn p).length)(hw:0<=fO/\fO<=100) :
  (lI p b f fO).1.length<=951/\∃ x g,(lI p b f fO).1[0]?=F x/\(zn p)[f]?=F g/\x.fZ=g:=by
 have hg:(zn p)[f]?=F (zn p)[f]:=Vq hf;have hfun:=vI hg;rw[hg];unfold lI;rw[hg];simp only[WM];generalize (zn p)[f]=g at hfun
 have hE:iH ⟨p,b.gN,kZ b f,fO,((zD p g).length:Int)⟩:=by
  exact ug
 have a0:=hfun.parts hE;simp only at a0;obtain⟨i,rfl,x,hx,h0⟩:=hfun;obtain⟨e,he,h8,hbody⟩:=hp.body i x hx h0;generalize hEE:(⟨p,b.gN,kZ b f,fO,((zD p (i:Int)).length:Int)⟩:gw)=E at hE;have hEp:E.p=p:=by rw[<-hEE]
 have hEa:E.args=((zD p (i:Int)).length:Int):=by rw[<-hEE]
 have a7:=(Vh.1 hx).1
 have hs:iS E ⟨i,[],zu p i,0,H,[]⟩:=by
  exact xp
 have a2:((zC E ⟨[],0,((zu p i).length:Int)-((zD p (i:Int)).length:Int),M⟩ (if kZ b f=H then 13 else 15) fO i []).gR fO).fx.length=1:=by simp[zC,gA.gR]
 have a1:∃ x,((zC E ⟨[],0,((zu p i).length:Int)-((zD p (i:Int)).length:Int),M⟩ (if kZ b f=H then 13 else 15) fO i []).gR fO).fx[0]?=F x/\x.fZ=(i:Int):=⟨_,rfl,rfl⟩
 generalize (zC E ⟨[],0,((zu p i).length:Int)-((zD p (i:Int)).length:Int),M⟩ (if kZ b f=H then 13 else 15) fO i []).gR fO=U8 at a2 a1 |-;have hL:=(Ng hE (by rw[hEp];exact hS) 3) [(i:Int)] ⟨i,[],zu p i,0,H,[]⟩ U8 i e hs rfl rfl rfl (by rw[hEp];exact he);have h5:=he.len;have h6:=hp.len;have h7:=hL.floor (v:=1) fh (by unfold yi;omega);unfold yi at h7;rw[show 3+1=4 from rfl] at h7;obtain⟨x0,a3,a4⟩:=a1;obtain⟨y0,a5,a6⟩:=hL.fst x0 a3;exact⟨fh,y0,(i:Int),a5,rfl,a6.trans a4⟩
theorem NY (hp:zA p=H)(hS:pi p)(hb:kC b=H)(hf:f<(zn p).length):(zx p b f).length<=951/\∃ x g,(zx p b f)[0]?=F x/\(zn p)[f]?=F g/\x.fZ=g:=by
 have hF:=qC hp;unfold kC at hb;rw[Vt] at hb
 have a2:∀ q:D fB,lq q->pi q->f<(zn q).length->(lI q b f (lI q b f 0).2).1.length<=951/\∃ x g,(lI q b f (lI q b f 0).2).1[0]?=F x/\(zn q)[f]?=F g/\x.fZ=g:=by
  intro q hq a3 a1;obtain⟨_,_,_,h4,h5⟩:=zm (fO:=0) hq hb.2 a1 ⟨fh,fh⟩;exact NX hq a3 hb.2 a1 ⟨h4,fh⟩
 unfold zx;simp only;split
 ·have a4:qE p=p.map zW:=by unfold qE;rw[Vs hp]
  rw[a4];have a0:=a2 _ hF.fold ?_ (by rw[uO];exact hf)
  ·rw[uO] at a0
   exact a0
  intro i y hy;obtain⟨x,hx,rfl⟩:=vR hy;have h7:=hS i x hx;unfold zW;split
  ·rename_i hl
   by_cases he:sF x.fC=H
   ·have h1:=(un (hF.line i x hx)).2.2.2
    unfold tx at h1;rw[Vs he] at h1;obtain⟨e,g1,g2,g3,g4⟩:=Cm h1;obtain⟨e',w1,w2,w3⟩:=e.jf g1;simp only;rw[g4,<-w2,e'.ie];rw[g2,e.ie] at h7;omega
   ·have h1:=(un (hF.line i x hx)).2.2.2
    unfold tx at h1;rw[Vo he] at h1;simp only[VD] at h1;omega
  ·exact h7
 ·exact a2 _ hF.c hS hf
theorem CB (a:Int):∀(n k:Nat),(qi a n k).length=n
 | 0,_=>rfl
 | n+1,k=>by simp[qi,CB a n]
theorem zy {x:mT} (h:lj x=H):(jV x).size=(jg x.Code).1+1:=by
 unfold jV;rw[Vs h];show ((pj x.Code::qi x.iz (jg x.Code).1 0).toArray).size=_;simp[CB]
theorem CW {x:mT} (h:lj x=H):0<=x.Code/\x.Code<=17:=by
 unfold lj at h;rw[Vt] at h;exact zr.1 h.1
theorem GJ {x:mT} (h:lj x=H):((jV x).size:Int)=zK x.Code:=by
 have hc:=CW h;rw[zy h];unfold zK;rw[Vs (zr.2 hc)];omega
theorem G0 {x:mT} (h:lj x=H)(pre rest:G):kU (pre++(jV x++rest)) pre.size=x.Code.toNat:=by
 have hc:=CW h;unfold kU;rw[Xa,Xa,XJ,XJ,VX gm];rw[show pre.size-pre.data.toList.length=0 from gm];unfold jV;rw[Vs h];simp only[Xl,VU,Xp,WM];unfold pj;rw[Int.emod_eq_of_lt fh fh];have:x.Code.toNat<256:=fh;simp;omega
theorem Qj {x:mT} (h:lj x=H)(pre rest:G):(ku (pre++(jV x++rest)) (pre.size:Nat)).ok=H/\(ku (pre++(jV x++rest)) (pre.size:Nat)).n=(jV x).size:=by
 have hc:=CW h;have h1:=G0 h pre rest;have h2:=zy h;have hs:(pre++(jV x++rest)).size=pre.size+((jV x).size+rest.size):=by simp[V5]
 have a0:((x.Code.toNat:Nat):Int)=x.Code:=fh;have hd:=CS (s:=pre++(jV x++rest)) (a:=pre.size) (c:=x.Code.toNat) (w:=(jg x.Code).1) (sg:=(jg x.Code).2) fh h1 fh (by rw[a0]) fh;rw[hd];exact⟨rfl,h2.symm⟩
def lB:D mT->G
 | []=>iK
 | x::r=>jV x++lB r
theorem FT:iK.size=0:=rfl
theorem BQ (b:G):iK++b=b:=YT (by rw[Xa];simp[iK])
theorem Dp (b:G):b++iK=b:=YT (by rw[Xa];simp[iK])
theorem IN:∀(l r:D mT),lB (l++r)=lB l++lB r
 | [],r=>by simp only[Wo,lB,BQ]
 | x::l,r=>by simp only[Xl,lB,IN l r,WF]
theorem Lc:∀(l:D mT)(pre:G),(∀ x∈l,lj x=H)->mF (pre++lB l) pre.size=H
 | [],pre,_=>Hj (by simp only[lB,Dp];omega)
 | x::r,pre,h=>by
  have hx:=h x (.head _);have a0:=zy hx;obtain⟨h1,h2⟩:=Qj hx pre (lB r);simp only[lB];rw[EC (by simp only[V5];omega) h1,h2];have h3:=Lc r (pre++jV x) (fun y hy=>h y (.tail _ hy));rw[WF,V5] at h3;exact h3
theorem RH {l:D mT} (h:∀ x∈l,lj x=H):mF (lB l) 0=H:=by
 have:=Lc l iK h;rwa [BQ] at this
structure mS where
 name:G
 ops:D mT
def mS.code (b:mS):G:=lB b.ops
def lS:D mS->G
 | []=>iK
 | b::r=>b.code++lS r
def oT:D mS->Nat->D fR
 | [],_=>[]
 | b::r,a=>⟨b.name,a,b.code.size⟩::oT r (a+b.code.size)
structure pK (b:mS):Prop where
 name:mN b.name=H
 ops:∀ x∈b.ops,lj x=H
 pos:0<b.ops.length
theorem pK.size {b:mS}(h:pK b):1<=b.code.size:=by
 unfold mS.code;have hp:=h.pos;have ho:=h.ops;cases hb:b.ops with
 | nil=>rw[hb] at hp;simp at hp
 | cons x r=>
  rw[hb] at ho;simp only[lB,V5];have:=zy (ho x (.head _));omega
theorem J8:∀(l:D mS)(pre:G)(prev:D G),(∀ b∈l,pK b)->(l.map mS.name).Nodup->(∀ b∈l,b.name∉prev)->kD (pre++lS l) (oT l pre.size) prev pre.size=H
 | [],pre,prev,_,_,_=>by simp[kD,oT,lS,Dp]
 | b::r,pre,prev,h,hd,hp=>by
  have hb:=h b (.head _);have hs:=hb.size;have a2:(pre++lS (b::r)).size=pre.size+(b.code.size+(lS r).size):=by simp only[lS,V5]
  have a1:(pre++lS (b::r)).extract pre.size (pre.size+b.code.size)=b.code:=by
   simp only[lS];rw[<-WF,ByteArray.extract_append,V5,Ws];rw[ByteArray.extract_append_eq_right rfl rfl];apply YT;rw[Xa,ByteArray.data_extract];simp
  simp only[WD,X8] at hd
  have ih:=J8 r (pre++b.code) (prev++[b.name]) (fun c hc=>h c (.tail _ hc)) hd.2 (fun c hc hm=>by
   rcases VA.1 hm with hm | hm
   ·exact hp c (.tail _ hc) hm
   ·rw[Vi] at hm
    exact hd.1 (hm ▸ List.mem_map_of_mem hc))
  rw[WF,V5] at ih;simp only[oT,kD,Vy,a2];rw[a1]
  have hn:prev.any (fun y=>decide (y=b.name))=M:=by
   rw[List.any_eq_false];intro y hy he;simp only[VD] at he;exact hp b (.head _) (he ▸ hy)
  have a0:mF b.code 0=H:=RH hb.ops;simp only[hn,hb.name,a0];simp only[Zm,Zh,Vt,VD];exact⟨⟨⟨trivial,fh⟩,fh⟩,ih⟩
def yM (l:D mS):ii:=⟨lS l,oT l 0⟩
theorem NB {l:D mS} (h:∀ b∈l,pK b)(hd:(l.map mS.name).Nodup)(hs:(lS l).size<=1000000):kI (yM l)=H:=by
 unfold kI yM;have:=J8 l iK [] h hd (fun b _ hm=>by cases hm);rw[BQ] at this;simp only[Vt,VD];exact⟨hs,this⟩
theorem zw (st:D Int):∀(l:D fX)(k j:Nat),(tr st l k)[j]?=(l[j]?).map (lY st (k+j))
 | [],_,_=>rfl
 | x::r,k,0=>rfl
 | x::r,k,j+1=>by
  simp only[tr,Ww];rw[zw st r (k+1) j,show k+1+j=k+(j+1) from by omega]
theorem Ey (st:D Int):∀(l:D fX)(k:Nat),(tr st l k).length=l.length
 | [],_=>rfl
 | x::r,k=>by simp[tr,Ey st r]
theorem Jw (c:Int):0<=zK c/\zK c<=5:=by
 unfold zK;split
 ·have:=tB c
  omega
 ·omega
theorem Jc:∀(l:D fX)(a:Int)(j:Nat),j<=l.length->∃ v,(zZ l a)[j]?=F v/\a<=v/\v<=a+5*(j:Int)
 | [],a,j,h=>by
  have:j=0:=by simpa using h
  subst this;exact⟨a,rfl,fh,fh⟩
 | x::r,a,0,_=>⟨a,rfl,fh,fh⟩
 | x::r,a,j+1,h=>by
  obtain⟨v,h1,h2,h3⟩:=Jc r (a+zK x.Op.Code) j (by simpa using h);have:=Jw x.Op.Code;exact⟨v,by simp only[zZ,Ww];exact h1,fh,fh⟩
theorem Dm {l:D fX} {a:Int} (h:j<=l.length):a<=(zZ l a).getD j 0/\(zZ l a).getD j 0<=a+5*(j:Int):=by
 obtain⟨v,h1,h2,h3⟩:=Jc l a j h;rw[VR,h1];exact⟨h2,h3⟩
theorem RF {l:D fX} {a:Int} (h:jr p l)(hl:l.length<=6000){j:Nat}{x:gC}(hx:(jZ l a)[j]?=F x):lj x.fE.Op=H/\∃ y,l[j]?=F y/\x.fE.Op.Code=y.Op.Code/\x.fE.fZ=y.fZ:=by
 unfold jZ at hx;rw[zw,VJ] at hx;cases hy:l[j]? with
 | none=>rw[hy] at hx;cases hx
 | some y=>
  rw[hy] at hx;simp only[Xp,VO] at hx;subst hx;have a1:=(Vh.1 hy).1;have hi:=h j y hy;have hc:=hi.code;unfold lY;by_cases hjmp:y.Op.Code=10∨y.Op.Code=11
  ·rw[Vs hjmp]
   simp only;refine⟨?_,y,rfl,rfl,rfl⟩;have hj:=hi.jump hjmp;have h1:=Dm (l:=l) (a:=a) (j:=y.Op.iz.toNat) (by omega);have h2:=Dm (l:=l) (a:=a) (j:=j+1) (by omega)
   have hw:jg y.Op.Code=(2,H):=by
    unfold jg;rw[Vo (by omega),Vs (by omega)]
   unfold lj;simp only[hw,Xe,Vt];exact⟨zr.2 hc,zr.2 ⟨by show (-32768:Int)<=_;omega,by show _<=(32767:Int);omega⟩⟩
  ·rw[Vo hjmp]
   refine⟨?_,y,rfl,rfl,rfl⟩;unfold lj;rw[Vt];refine⟨zr.2 hc,?_⟩;have a0:y.Op.Code=0∨(1<=y.Op.Code/\y.Op.Code<=4)∨((5<=y.Op.Code/\y.Op.Code<=9)∨y.Op.Code=17)∨(12<=y.Op.Code/\y.Op.Code<=15)∨y.Op.Code=16:=by omega
   rcases a0 with c | c | c | c | c
   ·have:=hi.lit c
    have hw:jg y.Op.Code=(4,H):=by unfold jg;rw[Vs c]
    rw[hw];exact zr.2 ⟨by simp;omega,by simp;omega⟩
   ·have:=hi.var c.1 c.2
    have hw:jg y.Op.Code=(2,H):=by unfold jg;rw[Vo (by omega),Vs (by omega)]
    rw[hw];exact zr.2 ⟨by simp;omega,by simp;omega⟩
   ·have:=hi.op c
    have hw:jg y.Op.Code=(0,M):=by unfold jg;rw[Vo (by omega),Vo (by omega),Vo (by omega),Vo (by omega)]
    rw[hw,this];rfl
   ·have:=hi.jj c.1 c.2
    have hw:jg y.Op.Code=(1,M):=by unfold jg;rw[Vo (by omega),Vo (by omega),Vo (by omega),Vs (by omega)]
    rw[hw];exact zr.2 ⟨by simp;omega,by simp;omega⟩
   ·have:=hi.ret c
    have hw:jg y.Op.Code=(2,M):=by unfold jg;rw[Vo (by omega),Vo (by omega),Vs c]
    rw[hw];exact zr.2 ⟨by simp;omega,by simp;omega⟩
def rX (p:D fB)(x:gC):Prop:=x.fE.Op.Code=13∨x.fE.Op.Code=15/\lC p x.fE.fZ=0
theorem Hh (l:D fR)(x:fR)(n:Int):rY (l++[x]) n=l++[{ x with iG:=n-x.fA }]:=by
 unfold rY;simp
def lK (l:D gC):D mT:=l.map fun x=>x.fE.Op
theorem Km (p:D fB):∀(l:D gC)(c:G)(ss:D fR)(nm:G)(st:Int),(∀ x∈l,¬ rX p x)->
  l.foldl (pd p) ⟨c,ss++[⟨nm,st,c.size-st⟩]⟩=⟨c++lB (lK l),ss++[⟨nm,st,(c++lB (lK l)).size-st⟩]⟩
 | [],c,ss,nm,st,_=>by simp[lK,lB,Dp]
 | x::r,c,ss,nm,st,h=>by
  have hx:=h x (.head _);unfold rX at hx;rw[XC]
  have:pd p ⟨c,ss++[⟨nm,st,c.size-st⟩]⟩ x=⟨c++jV x.fE.Op,ss++[⟨nm,st,(c++jV x.fE.Op).size-st⟩]⟩:=by
   unfold pd;simp only[Vo hx,Hh]
  rw[this,Km p r _ ss nm st (fun y hy=>h y (.tail _ hy))];simp only[lK,WD,lB,WF]
theorem TX (p:D fB)(x:gC)(r:D gC)(c:G)(ss:D fR)(hx:rX p x)(ho:x.fN=(c.size:Int))(h:∀ y∈r,¬ rX p y) :
  (x::r).foldl (pd p) ⟨c,ss⟩=⟨c++lB (lK (x::r)),ss++[⟨kX p x.fE.fZ,c.size,(lB (lK (x::r))).size⟩]⟩:=by
 rw[XC];unfold rX at hx
 have:pd p ⟨c,ss⟩ x=⟨c++jV x.fE.Op,ss++[⟨kX p x.fE.fZ,c.size,(c++jV x.fE.Op).size-c.size⟩]⟩:=by
  unfold pd;simp only[Vs hx,Hh,ho]
 rw[this,Km p r _ ss _ _ h];simp only[lK,WD,lB,WF,V5];congr 3;congr 1;omega
theorem Ep:∀(l:D fX)(a:Int),0<=nX l a-a/\nX l a-a<=5*(l.length:Int)
 | [],a=>by simp[nX]
 | x::r,a=>by
  have h:=Ep r (a+zK x.Op.Code);have h2:=Jw x.Op.Code;simp only[nX,VC];omega
theorem Eo:∀(l:D mT),(∀ x∈l,lj x=H)->((lB l).size:Int)=(l.map fun x=>zK x.Code).sum
 | [],_=>rfl
 | x::r,h=>by
  simp only[lB,V5,WD,Xz,Int.natCast_add];rw[GJ (h x (.head _)),Eo r (fun y hy=>h y (.tail _ hy))]
theorem Kh:∀(l:D fX)(a:Int),nX l a=a+(l.map fun x=>zK x.Op.Code).sum
 | [],a=>by simp[nX]
 | x::r,a=>by
  simp only[nX,WD,Xz,Kh r];omega
theorem Ia (l:D fX)(a:Int):(lK (jZ l a)).map (fun x=>zK x.Code)=l.map fun x=>zK x.Op.Code:=by
 apply Zf;intro j;unfold lK jZ;simp only[Xw,zw,Option.map_map];cases l[j]? with
 | none=>rfl
 | some x=>
  simp only[Xp,Function.comp];unfold lY;split <;> rfl
structure ki (p:D fB)(f:Nat)(l:D fX):Prop where
 ok:jr p l
 pos:0<l.length
 len:l.length<=951
 line:∃ x g,l[0]?=F x/\(zn p)[f]?=F g/\x.fZ=g
def pV (p:D fB)(f:Nat)(l:D fX)(a:Int):mS:=⟨kX p ((zn p).getD f 0),lK (jZ l a)⟩
theorem Ek {l:D fX} {a:Int} {x:gC} (h:(jZ l a)[j]?=F x):∃ y,l[j]?=F y/\x=lY (zZ l a) j y:=by
 unfold jZ at h;rw[zw,VJ] at h;cases hy:l[j]? with
 | none=>rw[hy] at h;cases h
 | some y=>
  rw[hy] at h;simp only[Xp,VO] at h;exact⟨y,rfl,h.symm⟩
theorem zt (st:D Int)(j:Nat)(y:fX):(lY st j y).fE.fZ=y.fZ/\(lY st j y).fE.Op.Code=y.Op.Code:=by
 unfold lY;split <;> exact⟨rfl,rfl⟩
theorem ki.first {p:D fB}{f:Nat}{l:D fX}(h:ki p f l)(a:Int){j:Nat}{x:gC}(hx:(jZ l a)[j]?=F x):j=0↔rX p x:=by
 obtain⟨y,hy,rfl⟩:=Ek hx;have:=(h.ok j y hy).first;unfold rX;rw[(zt _ _ _).1,(zt _ _ _).2];exact this
theorem ki.jD {l:D fX} (h:ki p f l)(a:Int):(∀ x∈(pV p f l a).ops,lj x=H)/\0<(pV p f l a).ops.length/\((pV p f l a).code.size:Int)=nX l a-a:=by
 have h1:∀ x∈(pV p f l a).ops,lj x=H:=by
  intro x hx;unfold pV lK at hx;simp only[Yc] at hx;obtain⟨y,hy,rfl⟩:=hx;obtain⟨j,hj⟩:=XS hy;exact(RF h.ok (by have:=h.len;omega) hj).1
 refine⟨h1,?_,?_⟩
 ·unfold pV lK jZ
  simp only[Yb,Ey];exact h.pos
 ·unfold mS.code
  rw[Eo _ h1,Kh];show (lK (jZ l a) |>.map fun x=>zK x.Code).sum=_;rw[Ia];omega
theorem ki.yX {l:D fX} (h:ki p f l)(c:G)(ss:D fR):(jZ l c.size).foldl (pd p) ⟨c,ss⟩=⟨c++(pV p f l c.size).code,ss++[⟨(pV p f l c.size).name,c.size,(pV p f l c.size).code.size⟩]⟩:=by
 obtain⟨x,g,hx,hg,hl⟩:=h.line;have a0:∀(j:Nat) (y:gC),(jZ l c.size)[j]?=F y->(j=0↔rX p y):=fun j y hy=>h.first c.size hy
 have h0:(jZ l c.size)[0]?=F (lY (zZ l c.size) 0 x):=by
  unfold jZ;rw[zw,VJ,hx];rfl
 unfold mS.code pV;cases hp:jZ l c.size with
 | nil=>rw[hp] at h0;cases h0
 | cons u r=>
  rw[hp] at h0 a0;simp only[VU,VO] at h0
  have ho:u.fN=(c.size:Int):=by
   rw[h0];show (zZ l c.size).getD 0 0=_;cases l <;> rfl
  have a1:u.fE.fZ=g:=by rw[h0,(zt _ _ _).1];exact hl
  rw[TX p u r c ss ((a0 0 u rfl).1 rfl) ho (fun y hy hf=>by
   obtain⟨j,hj⟩:=XS hy;have:=(a0 (j+1) y (by rw[Ww];exact hj)).2 hf
   omega)]
  rw[a1,VR,hg];rfl
def mD (p:D fB)(b:gP)(image:Int):Nat->Nat->Int->D mS
 | 0,_,_=>[]
 | n+1,f,a=>if nU b f image=H then pV p f (zx p b f) a::mD p b image n (f+1) (nX (zx p b f) a) else mD p b image n (f+1) a
theorem FA {p:D fB}{b:gP}{image:Int}(hF:∀ f,f<(zn p).length->ki p f (zx p b f)):∀(n f:Nat)(c:G)(ss:D fR),f+n<=(zn p).length->
  (pe p b image n f c.size).foldl (pd p) ⟨c,ss⟩=⟨c++lS (mD p b image n f c.size),ss++oT (mD p b image n f c.size) c.size⟩
 | 0,f,c,ss,_=>by simp[pe,mD,lS,oT,Dp]
 | n+1,f,c,ss,h=>by
  simp only[pe,mD];split
  ·have hi:=hF f fh
   have hs:=(hi.jD (c.size:Int)).2.2;rw[List.foldl_append,hi.yX]
   have he:nX (zx p b f) (c.size:Int)=((c++(pV p f (zx p b f) c.size).code).size:Int):=by
    rw[V5];omega
   rw[he,FA hF n (f+1) _ _ fh];simp only[lS,oT,WF,VM,List.singleton_append,V5]
  ·exact FA hF n (f+1) c ss fh
theorem Dl {p:D fB}{b:gP}{image:Int}:∀(n f:Nat)(a:Int),∀ x∈mD p b image n f a,∃ g a',f<=g/\g<f+n/\nU b g image=H/\x=pV p g (zx p b g) a'
 | 0,f,a,x,h=>by cases h
 | n+1,f,a,x,h=>by
  simp only[mD] at h;split at h
  ·rename_i hi
   rcases VT.1 h with rfl | h
   ·exact⟨f,a,Vz _,fh,hi,rfl⟩
   ·obtain⟨g,a',h1,h2,h3,h4⟩:=Dl n (f+1) _ x h
    exact⟨g,a',fh,fh,h3,h4⟩
  ·obtain⟨g,a',h1,h2,h3,h4⟩:=Dl n (f+1) _ x h
   exact⟨g,a',fh,fh,h3,h4⟩
theorem Dj {p:D fB}{b:gP}{image:Int}:∀(n f:Nat)(a:Int)(g:Nat),f<=g->g<f+n->nU b g image=H->∃ x∈mD p b image n f a,x.name=kX p ((zn p).getD g 0)
 | 0,f,a,g,h1,h2,_=>fh
 | n+1,f,a,g,h1,h2,hi=>by
  simp only[mD];by_cases hg:g=f
  ·subst hg
   rw[Vs hi];exact⟨_,.head _,rfl⟩
  ·split
   ·obtain⟨x,hx,hn⟩:=Dj n (f+1) _ g fh fh hi
    exact⟨x,.tail _ hx,hn⟩
   ·exact Dj n (f+1) _ g fh fh hi
theorem EH {p:D fB}{b:gP}{image:Int}(hd:∀ f g,f<g->g<(zn p).length->kX p ((zn p).getD f 0)≠kX p ((zn p).getD g 0)):∀(n f:Nat)(a:Int),f+n<=(zn p).length->((mD p b image n f a).map mS.name).Nodup
 | 0,f,a,_=>by simp[mD]
 | n+1,f,a,h=>by
  simp only[mD];split
  ·rw[WD,X8]
   refine⟨fun hm=>?_,EH hd n (f+1) _ fh⟩;simp only[Yc] at hm;obtain⟨x,hx,hn⟩:=hm;obtain⟨g,a',h1,h2,_,rfl⟩:=Dl n (f+1) _ x hx;exact hd f g fh fh hn.symm
  ·exact EH hd n (f+1) _ fh
theorem JN:∀(l:D mS)(Ve:Nat),(∀ b∈l,b.code.size<=Ve)->(lS l).size<=Ve*l.length
 | [],Ve,_=>by simp[lS,FT]
 | b::r,Ve,h=>by
  have h1:=h b (.head _);have h2:=JN r Ve (fun c hc=>h c (.tail _ hc));simp only[lS,V5,VC,Nat.mul_succ];omega
theorem CU:∀(l:D fB)(i:Nat),∀ x∈lJ l i,(i:Int)<=x
 | [],_,x,h=>by cases h
 | y::r,i,x,h=>by
  unfold lJ at h;split at h
  ·rcases VT.1 h with rfl | h
   ·exact Xv _
   ·have:=CU r (i+1) x h;omega
  ·have:=CU r (i+1) x h;omega
theorem FO:∀(l:D fB)(i:Nat),(lJ l i).Pairwise (· < ·)
 | [],_=>.nil
 | y::r,i=>by
  unfold lJ;split
  ·refine List.pairwise_cons.2 ⟨fun x hx=>?_,FO r (i+1)⟩
   have:=CU r (i+1) x hx;omega
  ·exact FO r (i+1)
theorem Af (h:p[i]?=F x):kX p (i:Int)=x.fJ:=by
 unfold kX;rw[Vy,h];rfl
theorem PU (hp:zA p=H)(f g:Nat)(h:f<g)(hg:g<(zn p).length):kX p ((zn p).getD f 0)≠kX p ((zn p).getD g 0):=by
 have hF:=qC hp;have hf:f<(zn p).length:=fh;have e1:(zn p)[f]?=F (zn p)[f]:=Vq hf;have e2:(zn p)[g]?=F (zn p)[g]:=Vq hg;have a0:=(List.pairwise_iff_getElem.1 (FO p 0)) f g hf hg h;obtain⟨i,hi,x,hx,x0⟩:=vI e1;obtain⟨j,hj,y,hy,y0⟩:=vI e2;rw[VR,VR,e1,e2];simp only[WM];rw[hi,hj,Af hx,Af hy];intro hn;have h1:=hF.own i x hx x0;have h2:=hF.own j y hy y0;rw[hn] at h1;have a1:(zn p)[f]<(zn p)[g]:=a0;omega
theorem Oj (hp:zA p=H){f:Nat}(hf:f<(zn p).length):mN (kX p ((zn p).getD f 0))=H:=by
 have hF:=qC hp;have e1:(zn p)[f]?=F (zn p)[f]:=Vq hf;obtain⟨i,hi,x,hx,x0⟩:=vI e1;rw[VR,e1];simp only[WM];rw[hi,Af hx];exact hF.c.name i x hx x0
theorem BV (hp:zA p=H)(hS:pi p)(hb:kC b=H)(f:Nat)(hf:f<(zn p).length):ki p f (zx p b f):=by
 obtain⟨h1,h2,_⟩:=En hp hb hf;obtain⟨h3,h4⟩:=NY hp hS hb hf;exact⟨h1,h2,h3,h4⟩
def qh (p:D fB)(b:gP)(image:Int):D mS:=mD p b image (zn p).length 0 0
theorem Cw (hp:zA p=H)(hS:pi p)(hb:kC b=H)(hi:gE image 0 1=H):zP p b image=yM (qh p b image):=by
 unfold zP lP;rw[Vs ⟨hp,hb,hi⟩];have h:=FA (image:=image) (BV hp hS hb) (zn p).length 0 iK [] fh;rw[BQ] at h;exact h
theorem DZ {p:D fB}{b:gP}{image:Int}(hs:b.ic=H):∀(n f:Nat)(a:Int),(mD p b image n f a).length<=(n+1) / 2
 | 0,f,a=>by simp[mD]
 | 1,f,a=>by
  simp only[mD];split <;> simp[mD]
 | n+2,f,a=>by
  have a0:∀ g:Int,nU b g image=decide (g % 2=image):=fun g=>by unfold nU;rw[Vs hs]
  simp only[mD,a0,VD];have h1:=fun a=>DZ hs n (f+1+1) a (p:=p) (image:=image);split
  ·rw[Vo fh]
   have:=h1 (nX (zx p b f) a);simp only[VC];omega
  ·split
   ·have:=h1 (nX (zx p b (f+1)) a)
    simp only[VC];omega
   ·have:=h1 a
    omega
theorem Dk {p:D fB}{b:gP}{image:Int}:∀(n f:Nat)(a:Int),(mD p b image n f a).length<=n
 | 0,f,a=>by simp[mD]
 | n+1,f,a=>by
  simp only[mD];split
  ·have:=Dk n (f+1) (nX (zx p b f) a) (p:=p) (b:=b) (image:=image)
   simp only[VC];omega
  ·have:=Dk n (f+1) a (p:=p) (b:=b) (image:=image)
   omega
theorem IX {p:D fB}{b:gP}(hs:b.ic=M):∀(n f:Nat)(a:Int),mD p b 1 n f a = []
 | 0,f,a=>rfl
 | n+1,f,a=>by
  simp only[mD];rw[Vo (by unfold nU;rw[hs];simp),IX hs n]
theorem EU (hp:zA p=H)(hS:pi p)(hb:kC b=H):(∀ x∈qh p b image,pK x/\x.code.size<=4755)/\((qh p b image).map mS.name).Nodup:=by
 refine⟨fun x hx=>?_,EH (PU hp) _ _ _ fh⟩;obtain⟨g,a,_,h2,_,rfl⟩:=Dl _ _ _ x hx;have hI:=BV hp hS hb g fh;obtain⟨h3,h4,h5⟩:=hI.jD a;have h6:=Ep (zx p b g) a;have h7:=hI.len;exact⟨⟨Oj hp fh,h3,h4⟩,fh⟩
theorem vK (hp:zA p=H)(hS:pi p)(hb:kC b=H)(hi:gE image 0 1=H):kI (zP p b image)=H/\(zP p b image).Code.size<=4755*(qh p b image).length:=by
 obtain⟨h1,h2⟩:=EU (image:=image) hp hS hb;have hz:=JN (qh p b image) 4755 (fun x hx=>(h1 x hx).2);have hl:(qh p b image).length<=(zn p).length:=Dk _ _ _;have h6:=(qC hp).ov;rw[Cw hp hS hb hi];exact⟨NB (fun x hx=>(h1 x hx).1) h2 fh,hz⟩
def ny (i:ii)(base:Int)(nm:G):D Int:=(i.fq.filter fun x=>decide (x.fJ=nm)).map fun x=>base+x.fA
def ry (p:D fB)(b:gP)(i0 i1:ii)(b0 b1:Int):Nat->Nat->D Int
 | 0,_=>[]
 | n+1,f=>(if b.ic=H/\f % 2=1 then ny i1 b1 (kX p ((zn p).getD f 0)) else ny i0 b0 (kX p ((zn p).getD f 0)))++ry p b i0 i1 b0 b1 n (f+1)
def zo (p:D fB)(b:gP)(b0 b1:Int):gQ:=
 ⟨[zP p b 0,zP p b 1],[b0,b1],ry p b (zP p b 0) (zP p b 1) b0 b1 (zn p).length 0⟩
theorem FK:∀(l:D mS)(a:Nat)(nm:G),(l.map mS.name).Nodup->(∃ x∈l,x.name=nm)->((oT l a).filter fun x=>decide (x.fJ=nm)).length=1
 | [],a,nm,_,h=>by obtain⟨x,hx,_⟩:=h;cases hx
 | b::r,a,nm,hd,h=>by
  simp only[WD,X8] at hd;by_cases hb:b.name=nm
  ·have a0:((oT r (a+b.code.size)).filter fun x=>decide (x.fJ=nm)) = []:=by
    rw[Ym];intro s hs he;simp only[VD] at he;refine hd.1 ?_;rw[hb,<-he]
    have a1:∀(l:D mS) (a:Nat),∀ s∈oT l a,s.fJ∈l.map mS.name:=by
     intro l;induction l with
     | nil=>intro a s hs;cases hs
     | cons c l ih=>
      intro a s hs;simp only[oT] at hs;rcases VT.1 hs with rfl | hs
      ·simp
      ·rw[WD];exact .tail _ (ih _ s hs)
    exact a1 r _ s hs
   simp only[oT];rw[List.filter_cons_of_pos (by simpa using hb),a0];rfl
  ·simp only[oT]
   rw[List.filter_cons_of_neg (by simpa using hb)];refine FK r _ nm hd.2 ?_;obtain⟨x,hx,hn⟩:=h;rcases VT.1 hx with rfl | hx
   ·exact absurd hn hb
   ·exact⟨x,hx,hn⟩
theorem G5 {i:ii} {base:Int} {nm:G} {e:Int} (h:e∈ny i base nm):∃ x∈i.fq,base+x.fA=e:=by
 unfold ny at h;simp only[Yc,List.mem_filter] at h;obtain⟨x,⟨hx,_⟩,he⟩:=h;exact⟨x,hx,he⟩
theorem GS {p:D fB}{b:gP}{i0 i1:ii}{b0 b1:Int}:∀(n f:Nat),∀ e∈ry p b i0 i1 b0 b1 n f,(∃ x∈i0.fq,b0+x.fA=e)∨∃ x∈i1.fq,b1+x.fA=e
 | 0,f,e,h=>by cases h
 | n+1,f,e,h=>by
  simp only[ry] at h;rcases VA.1 h with h | h
  ·split at h
   ·exact .inr (G5 h)
   ·exact .inl (G5 h)
  ·exact GS n (f+1) e h
theorem Cx {p:D fB}{b:gP}(hp:zA p=H)(hS:pi p)(hb:kC b=H){b0 b1:Int}:∀(n f:Nat),f+n<=(zn p).length->(ry p b (zP p b 0) (zP p b 1) b0 b1 n f).length=n
 | 0,f,_=>rfl
 | n+1,f,h=>by
  have a1:∀(a0 base:Int),gE a0 0 1=H->nU b f a0=H->(ny (zP p b a0) base (kX p ((zn p).getD f 0))).length=1:=by
   intro a0 base hi a2;unfold ny;rw[Yb,Cw hp hS hb hi];exact FK _ _ _ (EU hp hS hb).2 (Dj _ _ _ f (Vu _) fh a2)
  simp only[ry,Vk];rw[Cx hp hS hb n (f+1) fh];split
  ·rename_i hc
   rw[a1 1 b1 rfl (by unfold nU;rw[Vs hc.1];simp only[VD];omega)];omega
  ·rename_i hc
   rw[a1 0 b0 rfl (by
    unfold nU;cases hsp:b.ic with
    | true=>
     have:¬ f % 2=1:=fun h=>hc ⟨hsp,h⟩;simp only[Xe,VD];omega
    | false=>simp)]
   omega
theorem Ea {b0 b1:Int} (hp:zA p=H)(hS:pi p)(h4:(zn p).length<=4)(hb:kC b=H)(h0:1<=b0/\b0<=9000)(h1:20000<=b1/\b1<=1000000):ke (zo p b b0 b1)=H:=by
 obtain⟨k0,s0⟩:=vK (image:=0) hp hS hb rfl;obtain⟨k1,s1⟩:=vK (image:=1) hp hS hb rfl
 have a2:1<=(zn p).length:=by
  obtain⟨x,hx,x0,_⟩:=(qC hp).head;unfold zn;cases hpp:p with
  | nil=>rw[hpp] at hx;cases hx
  | cons y r=>
   rw[hpp] at hx;simp only[VU,VO] at hx;subst hx;simp[lJ,x0]
 have a1:Dx (zo p b b0 b1)=M:=by
  unfold Dx zo;simp only[X6,WA];cases hsp:b.ic with
  | true=>
   have:(qh p b 0).length<=((zn p).length+1) / 2:=DZ hsp _ _ _;right;omega
  | false=>
   have:qh p b 1 = []:=IX hsp _ _ _;rw[this] at s1;simp only[VZ,YN] at s1;left;left;right;omega
 unfold ke;rw[a1];have a0:=Cx hp hS hb (b0:=b0) (b1:=b1) (zn p).length 0 (by omega);simp only[Vt];refine⟨⟨⟨⟨⟨⟨rfl,rfl⟩,?_⟩,?_⟩,?_⟩,rfl⟩,?_⟩
 ·show gE (((ry p b (zP p b 0) (zP p b 1) b0 b1 (zn p).length 0).length:Nat):Int) 1 6=H
  rw[a0];exact zr.2 ⟨by omega,by omega⟩
 ·simp[zo,k0,k1]
 ·simp only[zo,List.all_cons,List.all_nil,Zh,Vt]
  exact⟨zr.2 ⟨by omega,by omega⟩,zr.2 ⟨by omega,by omega⟩⟩
 ·rw[Xm]
  intro e he;unfold mg zo;simp only[List.zip_cons_cons,List.zip_nil_right,List.any_cons,List.any_nil,Bool.or_false,Ya,Xs,VD];exact GS _ _ e he
structure sT (p:D fB)(x:gC):Prop where
 line:0<=x.fE.fZ/\x.fE.fZ<p.length
 ft:x.fE.fP.length<=3
 off:0<=x.fN/\x.fN<=100000
theorem Nm (st:D Int)(j:Nat)(y:fX):(lY st j y).fE.fP=y.fP:=by
 unfold lY;split <;> rfl
theorem O0 {a:Int} (hI:jr p iM)(ha:0<=a)(hb:a+5*(iM.length:Int)<=100000):∀ x∈jZ iM a,sT p x:=by
 intro x hx;obtain⟨j,hj⟩:=XS hx;obtain⟨y,hy,rfl⟩:=Ek hj;have a0:=(Vh.1 hy).1;have h:=hI j y hy;have h1:=Dm (l:=iM) (a:=a) (j:=j) fh;refine⟨by rw[(zt _ _ _).1];exact h.line,by rw[Nm];exact h.ft.1,?_⟩;show 0<=(zZ iM a).getD j 0/\(zZ iM a).getD j 0<=100000;omega
theorem Nn {a:Int} (hI:jr p iM):∀ x,(jZ iM a)[0]?=F x->rX p x:=by
 intro x hx;obtain⟨y,hy,rfl⟩:=Ek hx;have:=(hI 0 y hy).first.1 rfl;unfold rX;rw[(zt _ _ _).1,(zt _ _ _).2];exact this
theorem Ew {p:D fB}{b:gP}{image:Int}(hp:zA p=H)(hb:kC b=H):∀(n f:Nat)(a:Int),f+n<=(zn p).length->0<=a->a<=12000*(f:Int)->(∀ x∈pe p b image n f a,sT p x)/\(pe p b image n f a).length<=2400*n/\∀ x,(pe p b image n f a)[0]?=F x->rX p x
 | 0,f,a,_,_,_=>⟨fun x h=>(by cases h),by simp[pe],fun x h=>by simp[pe] at h⟩
 | n+1,f,a,hf,ha,hb1=>by
  have a0:=(qC hp).ov;obtain⟨h1,h2,h3⟩:=En (f:=f) hp hb fh;have he:=Ep (zx p b f) a;simp only[pe];split
  ·obtain⟨g1,g2,_⟩:=Ew (image:=image) hp hb n (f+1) (nX (zx p b f) a) fh fh fh
   have hl:(jZ (zx p b f) a).length=(zx p b f).length:=by unfold jZ;rw[Ey]
   refine⟨fun x hx=>?_,by rw[Vk];omega,fun x hx=>?_⟩
   ·rcases VA.1 hx with hx | hx
    ·exact O0 h1 ha fh x hx
    ·exact g1 x hx
   ·rw[Wh fh] at hx
    exact Nn h1 x hx
  ·obtain⟨g1,g2,g3⟩:=Ew (image:=image) hp hb n (f+1) a fh ha fh
   exact⟨g1,fh,g3⟩
theorem Ez (p:D fB)(b:gP)(image:Int):(∀ x∈lP p b image,sT p x)/\(lP p b image).length<=14400/\∀ x,(lP p b image)[0]?=F x->rX p x:=by
 unfold lP;split
 ·rename_i h
  obtain⟨h1,h2,h3⟩:=Ew (image:=image) h.1 h.2.1 (zn p).length 0 0 fh fh fh;have a0:=(qC h.1).ov;exact⟨h1,fh,h3⟩
 ·exact⟨fun x h=>(by cases h),Vu _,fun x h=>by simp at h⟩
def nj (p:D fB)(xs:D gC)(k:Nat):ii:=(xs.take k).foldl (pd p) ⟨iK,[]⟩
theorem Fo {xs:D gC} {x:gC} (h:xs[k]?=F x):nj p xs (k+1)=pd p (nj p xs k) x:=by
 unfold nj;rw[Wr,h];simp
theorem Kg (x:mT):(jV x).size<=5:=by
 unfold jV;split
 ·have:=tB x.Code
  show ((pj x.Code::qi x.iz (jg x.Code).1 0).toArray).size<=_;simp[CB];omega
 ·exact Vu _
theorem EM (l:D fR)(n:Int):(rY l n).length=l.length:=by
 unfold rY;cases h:l.getLast? with
 | none=>rfl
 | some x=>
  have:l≠[]:=by intro e;subst e;simp at h
  have hl:0<l.length:=List.length_pos_iff.2 this;simp;omega
theorem Dt {p:D fB}{xs:D gC}(hf:∀ x,xs[0]?=F x->rX p x):∀ k,k<=xs.length->(nj p xs k).Code.size<=5*k/\(nj p xs k).fq.length<=k/\(0<k->0<(nj p xs k).fq.length)
 | 0,_=>⟨Vu _,Vu _,fun h=>by omega⟩
 | k+1,h=>by
  obtain⟨h1,h2,h3⟩:=Dt hf k (by omega);have hx:xs[k]?=F xs[k]:=Vq (by omega);rw[Fo hx];have he:=Kg xs[k].fE.Op;unfold pd;simp only[EM];refine⟨by rw[V5];omega,?_,fun _=>?_⟩
  ·split
   ·rw[Vk,Wi];omega
   ·omega
  ·split
   ·rw[Vk,Wi];omega
   ·rename_i hn
    cases k with
    | zero=>exact absurd (hf _ hx) hn
    | succ k=>exact h3 (by omega)
def AU:D fB:=[⟨0,vp,[],[]⟩,⟨2,iK,[],[⟨0,1,iK⟩]⟩,⟨6,iK,[],[⟨0,1,iK⟩]⟩,⟨7,iK,[],[]⟩]
theorem Uf:zA AU=H:=gv
theorem NR (l:D fR)(n:Int):(rY l n).length=l.length:=by
 unfold rY;cases h:l.getLast? with
 | none=>rfl
 | some x=>
  have a0:l≠[]:=by intro he;subst he;simp at h
  have:=List.length_pos_iff.2 a0;simp only[Vk,List.length_dropLast,Wi];omega
theorem GA {P:G->Prop} {l:D fR} {n:Int} (h:∀ x∈l,P x.fJ):∀ x∈rY l n,P x.fJ:=by
 unfold rY;cases hl:l.getLast? with
 | none=>exact h
 | some y=>
  intro x hx;simp only[VA,Vi] at hx;rcases hx with hx | rfl
  ·exact h x (List.dropLast_subset l hx)
  ·exact h y (List.mem_of_getLast? hl)
theorem GO {p:D fB}{P:G->Prop}(hP:∀ k:Int,P (kX p k)):∀(xs:D gC)(i:ii),(∀ x∈i.fq,P x.fJ)->(xs.foldl (pd p) i).fq.length<=i.fq.length+xs.length/\∀ x∈(xs.foldl (pd p) i).fq,P x.fJ
 | [],i,h=>⟨Vz _,h⟩
 | x::r,i,h=>by
  have h1:(pd p i x).fq.length<=i.fq.length+1/\∀ y∈(pd p i x).fq,P y.fJ:=by
   unfold pd;simp only;rw[NR];split
   ·refine⟨gm,GA fun y hy=>?_⟩
    rcases VA.1 hy with hy | hy
    ·exact h y hy
    ·rw[Vi.1 hy];exact hP _
   ·exact⟨fh,GA h⟩
  have h2:=GO hP r (pd p i x) h1.2;rw[XC,VC];exact⟨fh,h2.2⟩
theorem Jq (hp:zA p=H)(k:Int):(kX p k).size<=8:=by
 unfold kX;cases h:p[k.toNat]? with
 | none=>exact Vu _
 | some x=>
  have h1:=(qC hp).line k.toNat x h;unfold qo at h1;simp only[Vt] at h1;have h2:=h1.2.1;unfold yJ at h2;simp only[Xp,WM];split at h2
  ·exact Fa h2
  ·rw[XH h2];exact Vu _
theorem KI:∀(l:D fR),(∀ x∈l,x.fJ.size<=8)->nH l<=32*l.length
 | [],_=>Vz _
 | x::l,h=>by
  have h1:=KI l (fun y hy=>h y (WH _ hy));have h2:=h x WW;simp only[nH,WD,Xz,VC] at h1 |-;omega
theorem GG:∀(l:D gC)(out:D iF),(l.foldl rV out).length<=out.length+l.length
 | [],_=>Vz _
 | x::r,out=>by
  have h1:(rV out x).length<=out.length+1:=by
   unfold rV;simp only;split
   ·simp
   ·split
    ·simp only[Vk,List.length_dropLast,Wi];omega
    ·simp
  have h2:=GG r (rV out x);rw[XC,VC];omega
theorem NN (l:D gC):(qM l).length<=l.length:=by
 unfold qM;split
 ·have:=GG l []
  simpa using this
 ·exact Vu _
theorem Ic:∀(l:D gC)(q:N fX),(tu q l).length<=l.length
 | [],_=>Vz _
 | x::r,q=>by
  have h:=Ic r (F x.fE);rw[VC];cases q with
  | none=>simp only[tu,Vk,Wi];omega
  | some y=>
   simp only[tu,Vk];split
   ·simp only[VZ];omega
   ·simp only[Wi];omega
theorem JY {α β:Type}{f:α->D β}{Ve:Nat}(h:∀ a,(f a).length<=Ve):∀ l:D α,(l.flatMap f).length<=l.length*Ve
 | []=>gm
 | a::l=>by
  have h1:=h a;have h2:=JY h l;rw[List.flatMap_cons,Vk,VC,Zi];omega
theorem Eg (p:D fB)(level:Nat):∀(n:Nat)(l:D gC),(pS p level n l).length<=n
 | 0,_=>Vz _
 | n+1,[]=>Vu _
 | n+1,x::r=>by
  unfold pS;split
  ·simp only[VC]
   have:=Eg p level n (r.drop (r.takeWhile (rE p level x.fE.fP (mA p x.fE level))).length);omega
  ·have:=Eg p level n r
   omega
theorem IM {U8:Nat}:∀(xs:D gC)(m:Nat),m<=U8->(∀ x∈xs,x.fE.fP.length<=U8)->xs.foldl (fun n x=>max n x.fE.fP.length) m<=U8
 | [],m,h,_=>h
 | x::r,m,h,hx=>IM r _ (Nat.max_le.2 ⟨h,hx x (.head _)⟩) (fun y hy=>hx y (.tail _ hy))
theorem ML {xs:D gC} (hc:∀ x∈xs,x.fE.fP.length<=3):(nZ p xs).length<=3*xs.length:=by
 unfold nZ;split
 ·have h1:=JY (f:=fun level=>pS p level xs.length xs) (Ve:=xs.length) (fun a=>Eg p a _ _) (List.range (vk xs))
  have h2:vk xs<=3:=IM xs 0 fh hc;rw[List.length_range] at h1;have h3:vk xs*xs.length<=3*xs.length:=Xf _ h2;omega
 ·exact Vu _
structure nJ (d:iB):Prop where
 jR:nH d.fq<=460800
 sZ:d.gY.length<=14400
 rows:d.gz.length<=14400
 inl:d.gk.length<=43200
theorem Gm (p:D fB)(b:gP)(k:Int):nJ (qI p b k):=by
 unfold qI;split
 ·rename_i h
  obtain⟨h1,h2,_⟩:=Ez p b k;have h3:=GO (p:=p) (P:=fun s=>s.size<=8) (Jq h.1) (lP p b k) ⟨iK,[]⟩ gm;have h4:=KI _ h3.2;have h5:=h3.1;simp only[VZ] at h5;have h6:=NN (lP p b k);have h7:=Ic (lP p b k) I;have h8:=ML (p:=p) (fun x hx=>(h1 x hx).ft);exact⟨show nH (zP p b k).fq<=460800 from by unfold zP;omega,show (qM (lP p b k)).length<=14400 from fh,show (uy (lP p b k)).length<=14400 from by unfold uy;omega,show (nZ p (lP p b k)).length<=43200 from fh⟩
 ·exact⟨gv,gv,gv,gv⟩
theorem GY {d:iB} (h:nJ d):(oM d).size<=2966466:=by
 unfold oM;split
 ·have h1:=N0 d
  have h2:=pA (wo (vj d));have h3:=h.jR;have h4:=h.sZ;have h5:=h.rows;have h6:=h.inl;rw[nY];omega
 ·exact Vu _
def Df (s:gQ)(x y:iB × Bool):jT × Bool:=
 if x.2=H/\y.2=H/\rA ⟨s,[x.1,y.1]⟩=H then (⟨s,[x.1,y.1]⟩,H) else (⟨⟨[],[],[]⟩,[]⟩,M)
def kY (p:D fB)(b:gP)(s:gQ):jT × Bool:=Df s (sK (oM (qI p b 0))) (sK (oM (qI p b 1)))
def tD (p:D fB)(g:Int):Int:=((zD p ((zn p).getD g.toNat 0)).length:Int)
def AR (c:Int):Bool:=decide (c≠10) && (decide (c≠14) && decide (c≠16))
def oO (c:Int):Bool:=decide (c=10) || decide (c=11)
def jX (p:D fB)(x:mT)(d:Int):Int:=
 if x.Code=0∨x.Code=1∨x.Code=3 then d+1
 else if x.Code=10∨x.Code=14∨x.Code=16 then d
 else if x.Code=12 then d-tD p x.iz+1
 else if x.Code=13∨x.Code=15 then d+x.iz
 else d-1
structure pt (E:gw)(j:Nat)(x:fX)(d:Int):Prop where
 code:0<=x.Op.Code/\x.Op.Code<=17
 vE:x.fU=(E.gT && decide (0<j))
 jN:x.fT=if (E.gT && decide (0<j))=H then 0 else d
 pos:0<=d
 sf:x.Op.Code=2->1<=d/\(x.Op.iz<0∨(2<=x.Op.iz/\x.Op.iz<=1+E.args))/\E.gT=H
 ss:x.Op.Code=4->1<=d/\(x.Op.iz<d∨(d<x.Op.iz/\x.Op.iz<=d+E.args))/\E.gT=M
 two:5<=x.Op.Code->x.Op.Code<=9->2<=d
 one:x.Op.Code=11∨x.Op.Code=17->1<=d
 call:x.Op.Code=12->0<=x.Op.iz/\x.Op.iz<(zn E.p).length/\tD E.p x.Op.iz<=d
 uJ:x.Op.Code=13->j=0/\0<=x.Op.iz/\E.gT=H
 Cj:x.Op.Code=15->0<=x.Op.iz/\(j=0->E.gT=M)
 re:x.Op.Code=14->E.gT=H/\x.Op.iz=E.args/\1<=d
 ret:x.Op.Code=16->E.gT=M/\x.Op.iz=E.args+16*E.fO/\d=E.fO+1
structure ja (E:gw)(L:D fX)(Vd:D Int)(pend:Nat->Prop):Prop where
 len:Vd.length=L.length+1
 it:∀(j:Nat) (x:fX) (d:Int),L[j]?=F x->Vd[j]?=F d->pt E j x d
 om:∀(j:Nat) (x:fX) (d:Int),L[j]?=F x->Vd[j]?=F d->AR x.Op.Code=H->Vd[j+1]?=F (jX E.p x.Op d)
 jump:∀(j:Nat) (x:fX) (d:Int),L[j]?=F x->Vd[j]?=F d->oO x.Op.Code=H->pend j∨∃ t:Nat,x.Op.iz=t/\0<t/\Vd[t]?=F (jX E.p x.Op d)
theorem ja.nR {E:gw} {q r:Nat->Prop} (h:ja E L Vd q)(hqr:∀ j,q j->r j):ja E L Vd r:=
 ⟨h.len,h.it,h.om,fun j x d h1 h2 h3=>(h.jump j x d h1 h2 h3).imp (hqr j) id⟩
theorem Fw {α:Type} {l:D α} {x y:α} (h:(l++[x])[j]?=F y):(j<l.length/\l[j]?=F y)∨(j=l.length/\y=x):=by
 by_cases hj:j<l.length
 ·rw[Wh hj] at h
  exact .inl ⟨hj,h⟩
 ·rw[VX fh] at h
  have hz:j-l.length=0:=by
   have:=(Vh.1 h).1;simp only[Wi] at this;omega
  rw[hz] at h;simp only[VU,VO] at h;exact .inr ⟨fh,h.symm⟩
theorem sE {α:Type} {l r:D α} {y:α} (h:l[j]?=F y):(l++r)[j]?=F y:=by
 rw[Wh (Vh.1 h).1];exact h
theorem ja.snoc {E:gw} {q r:Nat->Prop} {x:fX} (h:ja E L Vd q)(hd:Vd[L.length]?=F d)(hx:pt E L.length x d)
  (hf:AR x.Op.Code=H->v=jX E.p x.Op d) (hj:oO x.Op.Code=H->r L.length∨∃ t:Nat,x.Op.iz=t/\0<t/\Vd[t]?=F (jX E.p x.Op d)) (hqr:∀ j,j<L.length->q j->r j):ja E (L++[x]) (Vd++[v]) r:=by
 have a0:=h.len
 have a1:∀(j:Nat) (y:fX) (c:Int),(L++[x])[j]?=F y->(Vd++[v])[j]?=F c->(j<L.length/\L[j]?=F y/\Vd[j]?=F c)∨(j=L.length/\y=x/\c=d):=by
  intro j y c h1 h2;rcases Fw h1 with⟨h3,h4⟩ | ⟨h3,h4⟩
  ·rw[Wh fh] at h2
   exact .inl ⟨h3,h4,h2⟩
  ·subst h3
   rw[Wh fh,hd] at h2;injection h2 with h2
   exact .inr ⟨rfl,h4,h2.symm⟩
 refine⟨by simp[a0],?_,?_,?_⟩
 ·intro j y c h1 h2
  rcases a1 j y c h1 h2 with⟨h3,h4,h5⟩ | ⟨h3,h4,h5⟩
  ·exact h.it j y c h4 h5
  ·subst h3 h4 h5;exact hx
 ·intro j y c h1 h2 h6
  rcases a1 j y c h1 h2 with⟨h3,h4,h5⟩ | ⟨h3,h4,h5⟩
  ·exact sE (h.om j y c h4 h5 h6)
  ·subst h3 h4 h5
   rw[VX fh,hf h6];rw[a0,Ws];rfl
 ·intro j y c h1 h2 h6
  rcases a1 j y c h1 h2 with⟨h3,h4,h5⟩ | ⟨h3,h4,h5⟩
  ·rcases h.jump j y c h4 h5 h6 with h7 | ⟨t,h7,h9,h8⟩
   ·exact .inl (hqr j h3 h7)
   ·exact .inr ⟨t,h7,h9,sE h8⟩
  ·subst h3 h4 h5
   rcases hj h6 with h7 | ⟨t,h7,h9,h8⟩
   ·exact .inl h7
   ·exact .inr ⟨t,h7,h9,sE h8⟩
def JF (p:D fB)(L:D fX)(Vd:D Int)(j:Nat)(v:Int):Prop:=∃ x d,L[j]?=F x/\Vd[j]?=F d/\oO x.Op.Code=H/\jX p x.Op d=v
theorem Fc {c a b:Int} (h:oO c=H):jX p ⟨c,a⟩ d=jX p ⟨c,b⟩ d:=by
 unfold oO at h;simp only[Ya,VD] at h;rcases h with rfl | rfl <;> simp[jX]
theorem pt.arg {E:gw} {x:fX} (h:pt E j x d)(hj:oO x.Op.Code=H):pt E j { x with Op:=⟨x.Op.Code,v⟩ } d:=by
 unfold oO at hj;simp only[Ya,VD] at hj;refine⟨h.code,h.vE,h.jN,h.pos,?_,?_,h.two,h.one,?_,?_,?_,?_,?_⟩ <;> (simp only;intro hc;omega)
theorem JH {l:D fX} {x:fX} (h:l[i]?=F x):(mO l j v)[i]?=F (if i=j then { x with Op:=⟨x.Op.Code,v⟩ } else x):=by
 unfold mO;cases hx:l[j]? with
 | none=>
  simp only;have:i≠j:=fun e=>by subst e;rw[h] at hx;cases hx
  rw[Vo this];exact h
 | some y=>
  simp only;by_cases hij:i=j
  ·subst hij
   rw[h] at hx;injection hx with hx
   subst hx;rw[Vs rfl,WU (Vh.1 h).1]
  ·rw[Vo hij,Wy (fun e=>hij e.symm)]
   exact h
theorem JF.set {w:Int} (h:JF p L Vd j v):JF p (mO L i w) Vd j v:=by
 obtain⟨x,d,h1,h2,h3,h4⟩:=h;by_cases hji:j=i
 ·refine⟨{ x with Op:=⟨x.Op.Code,w⟩ },d,by rw[JH h1,Vs hji],h2,h3,?_⟩
  rw[<-h4];exact Fc h3
 ·exact⟨x,d,by rw[JH h1,Vo hji],h2,h3,h4⟩
theorem JF.l5 {L2:D fX} (h:JF p L Vd j v):JF p (L++L2) (Vd++D2) j v:=by
 obtain⟨x,d,h1,h2,h3,h4⟩:=h;exact⟨x,d,sE h1,sE h2,h3,h4⟩
theorem ja.set {E:gw} {q:Nat->Prop} {v:Nat} {w:Int} (h:ja E L Vd q)(hj:JF E.p L Vd j w)(hv0:0<v)(hv:Vd[v]?=F w):ja E (mO L j v) Vd (fun i=>q i/\i≠j):=by
 obtain⟨x,d,h1,h2,h3,h4⟩:=hj
 have a0:∀(i:Nat) (y:fX),(mO L j v)[i]?=F y->(i≠j/\L[i]?=F y)∨(i=j/\y = { x with Op:=⟨x.Op.Code,(v:Int)⟩ }):=by
  intro i y hy;rcases I8 hy with⟨a,b⟩ | ⟨a,z,b,c⟩
  ·exact .inl ⟨a,b⟩
  ·rw[h1] at b
   injection b with b
   subst b;exact .inr ⟨a,c⟩
 refine⟨by rw[yv];exact h.len,?_,?_,?_⟩
 ·intro i y c g1 g2
  rcases a0 i y g1 with⟨a,b⟩ | ⟨rfl,rfl⟩
  ·exact h.it i y c b g2
  ·exact(h.it i x c h1 g2).arg h3
 ·intro i y c g1 g2 g3
  rcases a0 i y g1 with⟨a,b⟩ | ⟨rfl,rfl⟩
  ·exact h.om i y c b g2 g3
  ·rw[Fc (b:=x.Op.iz) h3]
   exact h.om i x c h1 g2 g3
 ·intro i y c g1 g2 g3
  rcases a0 i y g1 with⟨a,b⟩ | ⟨rfl,rfl⟩
  ·rcases h.jump i y c b g2 g3 with g4 | g4
   ·exact .inl ⟨g4,a⟩
   ·exact .inr g4
  ·rw[h2] at g2
   injection g2 with g2
   subst g2;exact .inr ⟨v,rfl,hv0,by rw[Fc (b:=x.Op.iz) h3];exact hv.trans (WY F h4.symm)⟩
theorem ja.jp {E:gw}{Vd:D Int}{K w:Int}{v:Nat}(hv0:0<v)(hv:Vd[v]?=F w):∀(es:D (Int × Int))(L:D fX)(q:Nat->Prop),ja E L Vd q->(∀ e∈es,e.1=K->∃ j:Nat,e.2=j/\JF E.p L Vd j w)->
  ja E (n9 L es K v) Vd (fun i=>q i/\∀ e∈es,e.1=K->e.2≠(i:Int))
 | [],L,q,h,_=>h.nR fun j hj=>⟨hj,fun e he=>by cases he⟩
 | e::es,L,q,h,hj=>by
  unfold n9;rw[XC];by_cases he:e.1=K
  ·rw[Vs he]
   obtain⟨j,e2,hJ⟩:=hj e WW he;rw[e2,Vy]
   have g:=ja.jp hv0 hv es (mO L j v) _ (h.set hJ hv0 hv) (fun z hz hzk=>by
    obtain⟨i,z2,hI⟩:=hj z (WH _ hz) hzk
    exact⟨i,z2,hI.set⟩)
   refine ja.nR g fun i hi=>⟨hi.1.1,fun z hz hzk=>?_⟩;rcases VT.1 hz with rfl | hz
   ·rw[e2]
    intro h3;exact hi.1.2 fh
   ·exact hi.2 z hz hzk
  ·rw[Vo he]
   have g:=ja.jp hv0 hv es L q h (fun z hz hzk=>hj z (WH _ hz) hzk);refine ja.nR g fun i hi=>⟨hi.1,fun z hz hzk=>?_⟩;rcases VT.1 hz with rfl | hz
   ·exact absurd hzk he
   ·exact hi.2 z hz hzk
theorem JF.jp {p:D fB}{Vd:D Int}{j:Nat}{w K v:Int}:∀(es:D (Int × Int))(L:D fX),JF p L Vd j w->JF p (n9 L es K v) Vd j w
 | [],L,h=>h
 | e::es,L,h=>by
  unfold n9;rw[XC];split
  ·exact JF.jp es _ h.set
  ·exact JF.jp es _ h
theorem ja.qB {E:gw}{Vd:D Int}{w:Int}{v:Nat}(hv0:0<v)(hv:Vd[v]?=F w):∀(js:D Int)(L:D fX)(q:Nat->Prop),ja E L Vd q->(∀ a∈js,∃ j:Nat,a=j/\JF E.p L Vd j w)->ja E (oJ L js v) Vd (fun i=>q i/\(i:Int)∉js)
 | [],L,q,h,_=>h.nR fun j hj=>⟨hj,gm⟩
 | a::js,L,q,h,hj=>by
  unfold oJ;rw[XC];obtain⟨j,e2,hJ⟩:=hj a WW;rw[e2,Vy]
  have g:=ja.qB hv0 hv js (mO L j v) _ (h.set hJ hv0 hv) (fun z hz=>by
   obtain⟨i,z2,hI⟩:=hj z (WH _ hz)
   exact⟨i,z2,hI.set⟩)
  refine ja.nR g fun i hi=>⟨hi.1.1,fun hm=>?_⟩;rcases VT.1 hm with h3 | h3
  ·exact hi.1.2 fh
  ·exact hi.2 h3
theorem JF.qB {p:D fB}{Vd:D Int}{j:Nat}{w v:Int}:∀(js:D Int)(L:D fX),JF p L Vd j w->JF p (oJ L js v) Vd j w
 | [],L,h=>h
 | a::js,L,h=>JF.qB js _ h.set
structure St (E:gw)(m:gA)(Vd:D Int)(q:Nat->Prop):Prop where
 kG:ja E m.fx Vd q
 at_:Vd[m.fx.length]?=F m.fv
 pos:0<m.fx.length
def KJ (p:D fB)(L L':D fX):Prop:=∀(Vd D2:D Int)(j:Nat)(v:Int),JF p L Vd j v->JF p L' (Vd++D2) j v
theorem KJ.refl (p:D fB)(L:D fX):KJ p L L:=fun Vd D2 j v h=>by
 have:=h.l5 (L2:=[]) (D2:=D2);rwa [Wu] at this
theorem KJ.trans {a b c:D fX} (h:KJ p a b)(k:KJ p b c):KJ p a c:=fun Vd D2 j v hj=>by
 have:=k (Vd++D2) [] j v (h Vd D2 j v hj);rwa [Wu] at this
theorem KJ.l5 (p:D fB)(L L2:D fX):KJ p L (L++L2):=fun Vd D2 j v h=>h.l5
theorem KJ.jp (p:D fB)(L:D fX)(es:D (Int × Int))(K v:Int):KJ p L (n9 L es K v):=fun Vd D2 j w h=>JF.jp es L (KJ.refl p L Vd D2 j w h)
theorem KJ.qB (p:D fB)(L:D fX)(js:D Int)(v:Int):KJ p L (oJ L js v):=fun Vd D2 j w h=>JF.qB js L (KJ.refl p L Vd D2 j w h)
structure FS (E:gw)(m m':gA)(dd:Int):Prop where
 go:∀(Vd:D Int) (q:Nat->Prop),St E m Vd q->KJ E.p m.fx m'.fx/\∃ D2,St E m' (Vd++D2) q
 jN:m'.fv=m.fv+dd
theorem FS.refl (E:gw)(m:gA):FS E m m 0:=⟨fun Vd q h=>⟨KJ.refl _ _,[],by rw[Wu];exact h⟩,fh⟩
theorem FS.trans {E:gw}{a b c:gA}{d1 d2:Int}(h:FS E a b d1)(k:FS E b c d2):FS E a c (d1+d2):=
 ⟨fun Vd q hS=>by
  obtain⟨k1,D2,h1⟩:=h.go Vd q hS;obtain⟨k2,D3,h2⟩:=k.go _ q h1
  exact⟨k1.trans k2,D2++D3,by rw[<-VM];exact h2⟩,by rw[k.jN,h.jN];omega⟩
theorem FS.to {E:gw} {a b:gA} {d':Int} (h:FS E a b d)(e:d=d'):FS E a b d':=by subst e;exact h
theorem Kb (E:gw)(m:gA)(code arg line:Int)(ft:D Int):(mP E m code arg line ft).Op=⟨code,arg⟩:=rfl
theorem qe {E:gw} {m:gA} {code arg:Int} (hc:0<=code/\code<=17)(hp:0<=m.fv)
  (sf:code=2->1<=m.fv/\(arg<0∨(2<=arg/\arg<=1+E.args))/\E.gT=H)
  (ss:code=4->1<=m.fv/\(arg<m.fv∨(m.fv<arg/\arg<=m.fv+E.args))/\E.gT=M)
  (two:5<=code->code<=9->2<=m.fv) (one:code=11∨code=17->1<=m.fv)
  (call:code=12->0<=arg/\arg<(zn E.p).length/\tD E.p arg<=m.fv)
  (uJ:code=13->m.fx.length=0/\0<=arg/\E.gT=H)
  (Cj:code=15->0<=arg/\(m.fx.length=0->E.gT=M))
  (re:code=14->E.gT=H/\arg=E.args/\1<=m.fv)
  (ret:code=16->E.gT=M/\arg=E.args+16*E.fO/\m.fv=E.fO+1):pt E m.fx.length (mP E m code arg line ft) m.fv:=
 ⟨hc,rfl,rfl,hp,sf,ss,two,one,call,uJ,Cj,re,ret⟩
theorem yh {g:Prop} (f:g:=by
  rw[Vk,Wi,<-this,VX (Vz _),Ws]
  rfl):g:=f
theorem FS.emit {E:gw} {m:gA} {code arg dd:Int} (hx:0<m.fx.length->pt E m.fx.length (mP E m code arg line ft) m.fv)(hj:oO code=M)(ho:jX E.p ⟨code,arg⟩ m.fv=m.fv+dd) :
  FS E m ((zC E m code arg line ft).gR (m.fv+dd)) dd:=by
 refine⟨fun Vd q hS=>⟨KJ.l5 _ _ _,[m.fv+dd],?_,?_,?_⟩,rfl⟩
 ·refine hS.kG.snoc hS.at_ (hx hS.pos) (fun _=>?_) (fun h=>?_) (fun j _ h=>h)
  ·rw[Kb];exact ho.symm
  ·rw[Kb] at h;simp only at h;rw[hj] at h;cases h
 ·show (Vd++[m.fv+dd])[(m.fx++[mP E m code arg line ft]).length]?=F (m.fv+dd)
  have:=hS.kG.len;exact yh
 ·simp[zC,gA.gR]
theorem NI {E:gw} {s:fV} {i:Int} (hs:iS E s)(hi:0<=i)(d:Int):(E.gT=H->(mE E d s i H).1=2/\((mE E d s i H).2<0∨(2<=(mE E d s i H).2/\(mE E d s i H).2<=1+E.args)))/\
  (E.gT=M->(mE E d s i H).1=4/\((mE E d s i H).2<d∨(d<(mE E d s i H).2/\(mE E d s i H).2<=d+E.args))):=by
 have hf:=hs.first;unfold mE;simp only;refine⟨fun h=>?_,fun h=>?_⟩
 ·rw[Vs h,Vs h]
  refine⟨gm,?_⟩;split
  ·split <;> omega
  ·omega
 ·rw[h]
  simp only[WX,Yn,Xe,Yv];split
  ·split <;> omega
  ·omega
theorem E1 {E:gw} {m:gA} {s:fV} {i:Int} (hs:iS E s)(hd:1<=m.fv)(hi:0<=i):FS E m (ni E m s i line ft) (-1):=by
 obtain⟨h1,h2⟩:=NI hs hi m.fv
 have hc:(mE E m.fv s i H).1=2∨(mE E m.fv s i H).1=4:=by
  cases hf:E.gT
  ·exact .inr (h2 hf).1
  ·exact .inl (h1 hf).1
 refine FS.emit (dd:=-1) (fun hp=>?_) ?_ ?_
 ·refine qe fh fh (fun h=>?_) (fun h=>?_) fh fh fh fh fh fh fh
  ·cases hf:E.gT
   ·have:=(h2 hf).1;omega
   ·exact⟨hd,(h1 hf).2,rfl⟩
  ·cases hf:E.gT
   ·exact⟨hd,(h2 hf).2,rfl⟩
   ·have:=(h1 hf).1;omega
 ·rcases hc with h | h <;> rw[h] <;> rfl
 ·rcases hc with h | h <;> rw[h] <;> simp[jX] <;> omega
theorem Rn {E:gw} {m:gA} {s:fV} {i:Int} (hd:0<=m.fv):FS E m (BX E m s i line) 1:=by
 have hc:(mE E m.fv s i M).1=1∨(mE E m.fv s i M).1=3:=by
  unfold mE;simp only;split
  ·exact .inl gm
  ·exact .inr gm
 refine FS.emit (dd:=1) (fun hp=>?_) ?_ ?_
 ·exact qe fh fh fh fh fh fh fh fh fh fh fh
 ·rcases hc with h | h <;> rw[h] <;> rfl
 ·rcases hc with h | h <;> rw[h] <;> simp[jX]
theorem Ei {E:gw} {m:gA} (hd:0<=m.fv):FS E m (mx E m v line ft) 1:=by
 refine FS.emit (dd:=1) (fun hp=>?_) rfl (by simp[jX]);exact qe fh fh fh fh fh fh fh fh fh fh fh
def yQ (E:gw)(rep:Int->gA->gA)(fs:D Int):Prop:=∀(g:Int)(m:gA),kB E.p g->oH E fs m g=H->((zD E.p g).length:Int)<=m.fv->FS E m (rep g m) (1-((zD E.p g).length:Int))
theorem Hs:∀(l:D fB)(k i:Nat)(x:fB),l[i]?=F x->x.fC=0->(lJ l k)[((lJ l k).filter fun a=>decide (a<((k+i:Nat):Int))).length]?=F ((k+i:Nat):Int)
 | [],_,_,_,h,_=>by simp at h
 | y::l,k,i,x,h,h0=>by
  cases i with
  | zero=>
   simp only[VU,VO] at h;subst h
   have hz:((lJ (y::l) k).filter fun a=>decide (a<((k+0:Nat):Int))) = []:=by
    rw[Ym];intro a ha;have:=CU (y::l) k a ha;simp;omega
   rw[hz];simp only[lJ,h0,Xe,Wk,VZ,VU]
  | succ i=>
   have ih:=Hs l (k+1) i x (by simpa using h) h0;rw[show k+1+i=k+(i+1) from fh] at ih;by_cases hy:y.fC=0
   ·simp only[lJ,hy,Xe]
    rw[XD,Vs (by simp;omega),VC,Ww];exact ih
   ·simp only[lJ,hy,Yn]
    exact ih
theorem NZ (hx:p[i]?=F x)(h0:x.fC=0):∃ n:Nat,rq p (i:Int)=n/\(zn p)[n]?=F (i:Int):=by
 refine⟨_,rfl,?_⟩;have:=Hs p 0 i x hx h0;rw[VJ] at this;exact this
theorem OV (hx:p[i]?=F x)(h0:x.fC=0):tD p (rq p (i:Int))=(x.gD.length:Int)/\0<=rq p (i:Int)/\rq p (i:Int)<(zn p).length:=by
 obtain⟨n,h1,h2⟩:=NZ hx h0;rw[h1];refine⟨?_,fh,by have:=(Vh.1 h2).1;omega⟩;unfold tD;rw[Vy,VR,h2,WM,uo hx]
theorem TA {E:gw} {rep:Int->gA->gA} {s:fV} {k:Int} {t:iq} {m:gA} (hr:yQ E rep fs)(ht:mR t=H)(hn:mK E.p s.fM t=H)(h0:0<=m.fv)(ha:j9 t<=m.fv):FS E m (pI E rep fs s k t m) (1-j9 t):=by
 have hk:=E2 ht;unfold pI;by_cases k0:t.fC=0
 ·rw[Vs k0,Cz ht (.inl k0)]
  exact Ei h0
 ·rw[Vo k0]
  by_cases k1:t.fC=1
  ·rw[Vs k1,Cz ht (.inr k1)]
   exact Rn h0
  ·rw[Vo k1]
   by_cases k7:t.fC=7
   ·rw[Vs k7]
    obtain⟨i,x,h1,h2,h3,h4⟩:=Cq hn k7;have a1:=Bs ht k7;rw[h1];rw[a1] at ha |-;have a0:((zD E.p (i:Int)).length:Int)=t.iY:=by rw[uo h2];exact h4
    split
    ·rename_i hrep
     have:=hr (i:Int) m ⟨i,rfl,x,h2,h3⟩ hrep fh;exact this.to fh
    ·obtain⟨c1,c2,c3⟩:=OV h2 h3
     have g:FS E m ((zC E m 12 (rq E.p i) k s.ft).gR (m.fv+(1-t.iY))) (1-t.iY):=by
      refine FS.emit (fun hp=>?_) rfl ?_
      ·exact qe fh fh fh fh fh fh (fun _=>⟨c2,c3,fh⟩) fh fh fh fh
      ·simp only[jX]
       simp only[show ¬((12:Int)=0∨(12:Int)=1∨(12:Int)=3) from gv,show ¬((12:Int)=10∨(12:Int)=14∨(12:Int)=16) from gv,Yn,Xe];omega
     rw[show m.fv-t.iY+1=m.fv+(1-t.iY) from fh];exact g
   ·rw[Vo k7,Dh ht k0 k1 k7]
    rw[Dh ht k0 k1 k7] at ha
    have g:FS E m ((zC E m (5+t.fC-2) 0 k s.ft).gR (m.fv+(-1))) (-1):=by
     refine FS.emit (fun hp=>?_) ?_ ?_
     ·exact qe fh fh fh fh fh fh fh fh fh fh fh
     ·unfold oO
      rw[Vp fh,Vp fh];rfl
     ·simp only[jX]
      rw[Vo fh,Vo fh,Vo fh,Vo fh];omega
    exact g
mutual
theorem Ex.kz {E:gw}{rep:Int->gA->gA}{fs:D Int}{s:fV}{k:Int}(hr:yQ E rep fs):∀(e:Ex)(m:gA),e.wf->zU E.p s.fM e.flat=H->0<=m.fv->FS E m (e.comp E rep fs s k m) 1
 | .node t ks,m,hw,hn,h0=>by
  simp only[Ex.flat,zU,List.all_cons,Vt] at hn;obtain⟨w1,w2,w3⟩:=hw;have g1:=ig.kz (k:=k) hr ks m w3 hn.2 h0;have hd:=g1.jN;have g2:=TA (k:=k) hr w1 hn.1 fh fh (m:=ks.comp E rep fs s k m);exact(g1.trans g2).to fh
theorem ig.kz {E:gw}{rep:Int->gA->gA}{fs:D Int}{s:fV}{k:Int}(hr:yQ E rep fs):∀(ks:ig)(m:gA),ks.wf->zU E.p s.fM ks.flat=H->0<=m.fv->FS E m (ks.comp E rep fs s k m) ks.len
 | .nil,m,_,_,_=>FS.refl E m
 | .cons e r,m,hw,hn,h0=>by
  simp only[ig.flat,zU,XU,Vt] at hn;have g1:=Ex.kz (k:=k) hr e m hw.1 hn.1 h0;have hd:=g1.jN;have g2:=ig.kz hr r (Ex.comp E rep fs s k e m) hw.2 hn.2 fh (k:=k) (s:=s);exact(g1.trans g2).to (by simp only[ig.len];omega)
end
theorem GW {E:gw}{x:fV}{k:Int}{ft:D Int}(hs:iS E x):∀(n:Nat)(m:gA),(n:Int)<=m.fv->FS E m (rB E x k ft n m) (-(n:Int))
 | 0,m,_=>FS.refl E m
 | n+1,m,h=>by
  unfold rB;have g1:FS E m (ni E m x n k ft) (-1):=E1 hs fh fh;have g2:=GW hs n (ni E m x n k ft) (k:=k) (ft:=ft) (by rw[g1.jN];omega);exact(g1.trans g2).to fh
theorem Hl {E:gw}{x:fV}{k:Int}{ft:D Int}(hs:iS E x):∀(n i:Nat)(m:gA),0<=m.fv->FS E m (sN E x k ft n i m) 0
 | 0,i,m,_=>FS.refl E m
 | n+1,i,m,h=>by
  unfold sN;have g1:FS E m (mx E m 0 k ft) 1:=Ei h;have g2:FS E (mx E m 0 k ft) (ni E (mx E m 0 k ft) x i k ft) (-1):=E1 hs (by rw[g1.jN];omega) fh;have g3:=Hl hs n (i+1) (ni E (mx E m 0 k ft) x i k ft) (k:=k) (ft:=ft) (by rw[g2.jN,g1.jN];omega);exact((g1.trans g2).trans g3).to fh
theorem Pa {E:gw} {s:fV} {g k:Int} {m:gA} (hE:iH E)(hs:iS E s)(hg:kB E.p g)(hk:0<=k/\k<E.p.length)(hc:s.ft.length<=2)(h0:((zD E.p g).length:Int)<=m.fv):FS E m (pX E g k s m) (-((zD E.p g).length:Int)):=by
 have hx:=AK hE hs hg hk hc;unfold pX;simp only;have g0:FS E m (m.j7 (max m.most (pJ E s+(kA E g k s).fM.length))) 0:=⟨fun Vd q h=>⟨KJ.refl _ _,[],by rw[Wu];exact⟨h.kG,h.at_,h.pos⟩⟩,by simp[gA.j7]⟩
 have g1:=GW (k:=k) (ft:=s.ft) hx (zD E.p g).length _ (show ((zD E.p g).length:Int)<=(m.j7 (max m.most (pJ E s+(kA E g k s).fM.length))).fv from h0);have g2:=Hl (k:=k) (ft:=s.ft) hx ((kA E g k s).fM.length-(zD E.p g).length) (zD E.p g).length _ (by rw[g1.jN,g0.jN];omega);have g3:=(g0.trans g1).trans g2;have a0:=g3.jN;split
 ·have g4:FS E _ ((zC E _ 15 0 k s.ft).gR _) 0:=FS.emit (m:=sN E (kA E g k s) k s.ft ((kA E g k s).fM.length-(zD E.p g).length) (zD E.p g).length (rB E (kA E g k s) k s.ft (zD E.p g).length (m.j7 (max m.most (pJ E s+(kA E g k s).fM.length))))) (code:=15) (arg:=0) (dd:=0) (line:=k) (ft:=s.ft)
   (fun hp=>qe fh fh fh fh fh fh fh fh (fun _=>⟨fh,fh⟩) fh fh) rfl (by simp[jX])
  rw[Xj] at g4;exact(g3.trans g4).to fh
 ·exact g3.to fh
def Mb (es:D (Int × Int))(k:Nat)(j:Nat):Prop:=∃ z∈es,z.2=(j:Int)/\((k:Int)<=z.1∨(k:Int)<=-z.1)
structure LX (E:gw)(d0:Int)(i e kh:Nat)(iM:D fX)(fI gj:D Int)(fS:D (Int × Int))(Vd:D Int):Prop where
 ex:∀ z∈fS,(∃ j:Nat,z.2=j/\JF E.p iM Vd j d0)/\z.1<=e/\-(e:Int)<z.1/\(z.1<0->lC E.p (-z.1)=4)
 lv:∀ a∈fI,∃ j:Nat,a=j/\JF E.p iM Vd j (d0+1)
 hl:gj.length=E.p.length
 hd:∀(a:Nat),i<a->a<kh->lC E.p a=5->∃ h:Nat,gj[a]?=F (h:Int)/\0<h/\Vd[h]?=F d0
theorem LX.up {E:gw} {kh:Nat} {its':D fX} {gj:D Int} {fS:D (Int × Int)} (h:LX E d0 i e kh iM fI gj fS Vd)(hk:KJ E.p iM its')(D2:D Int):LX E d0 i e kh its' fI gj fS (Vd++D2):=
 ⟨fun z hz=>by
  obtain⟨⟨j,h1,h2⟩,h3⟩:=h.ex z hz;exact⟨⟨j,h1,hk Vd D2 j _ h2⟩,h3⟩,fun a ha=>by
  obtain⟨j,h1,h2⟩:=h.lv a ha;exact⟨j,h1,hk Vd D2 j _ h2⟩,h.hl,fun a h1 h2 h3=>by
  obtain⟨g,h4,h6,h5⟩:=h.hd a h1 h2 h3
  exact⟨g,h4,h6,sE h5⟩⟩
def tF (q:Nat->Prop)(fI:D Int)(fS:D (Int × Int))(k:Nat):Nat->Prop:=fun j=>q j∨Mb fS k j∨(j:Int)∈fI
structure LF (E:gw)(d0:Int)(q:Nat->Prop)(i e k:Nat)(L:jC)(Vd:D Int):Prop where
 st:St E L.m Vd (tF q L.fI L.fS k)
 jN:L.m.fv=d0
 lx:LX E d0 i e k L.m.fx L.fI L.gj L.fS Vd
theorem Ef (p:D fB)(k item:Int):∀(n a:Nat),∀ z∈mZ p k item n a,∃ b:Nat,a<=b/\b<a+n/\kH p b=k/\z=(jA p b+1,item)
 | 0,_,z,h=>by cases h
 | n+1,a,z,h=>by
  unfold mZ at h;split at h
  ·rename_i hc
   rcases VT.1 h with rfl | h
   ·exact⟨a,Vz _,fh,hc,rfl⟩
   ·obtain⟨b,h1,h2,h3⟩:=Ef p k item n (a+1) z h
    exact⟨b,fh,fh,h3⟩
  ·obtain⟨b,h1,h2,h3⟩:=Ef p k item n (a+1) z h
   exact⟨b,fh,fh,h3⟩
theorem Gt (p:D fB)(k item:Int):∀(n a b:Nat),a<=b->b<a+n->kH p b=k->(jA p b+1,item)∈mZ p k item n a
 | 0,a,b,h1,h2,_=>fh
 | n+1,a,b,h1,h2,h3=>by
  unfold mZ;by_cases sW:a=b
  ·subst sW
   rw[Vs h3];exact WW
  ·have:=Gt p k item n (a+1) b fh fh h3
   split
   ·exact WH _ this
   ·exact this
def vY (p:D fB):Prop:=∀(i e j:Nat)(x y:fB),gZ p i e->p[i]?=F x->x.fC=0->i<j->j<e->p[j]?=F y->y.fC=4->∃ a:Nat,i<=a/\a<j/\kH p a=(j:Int)
theorem St.pO {E:gw} {m:gA} {q r:Nat->Prop} {code arg:Int} (h:St E m Vd q)(hx:pt E m.fx.length (mP E m code arg line ft) m.fv)(hf:AR code=H->v=jX E.p ⟨code,arg⟩ m.fv)
  (hj:oO code=H->r m.fx.length∨∃ t:Nat,arg=t/\0<t/\Vd[t]?=F (jX E.p ⟨code,arg⟩ m.fv)) (hqr:∀ j,j<m.fx.length->q j->r j):St E ((zC E m code arg line ft).gR v) (Vd++[v]) r:=by
 refine⟨h.kG.snoc h.at_ hx hf hj hqr,?_,by simp[zC,gA.gR]⟩;show (Vd++[v])[(m.fx++[mP E m code arg line ft]).length]?=F v;have:=h.kG.len;exact yh
theorem JF.new {E:gw} {m:gA} {q:Nat->Prop} {code arg:Int} (h:St E m Vd q)(hj:oO code=H)(hv:jX E.p ⟨code,arg⟩ m.fv=v):JF E.p ((zC E m code arg line ft).gR d).fx (Vd++D2) m.fx.length v:=
 ⟨mP E m code arg line ft,m.fv,by show (m.fx++[_])[m.fx.length]?=_;rw[VX (Vz _),Ws];rfl,sE h.at_,hj,hv⟩
theorem Iu {q:Nat->Prop} {fS:D (Int × Int)} (h:tF q fI fS k j/\∀ z∈fS,z.1=(k:Int)->z.2≠(j:Int))(hk:0<k)(h4:∀ z∈fS,-z.1≠(k:Int)):tF q fI fS (k+1) j:=by
 obtain⟨h1 | ⟨z,hz,h2,h3⟩ | h1,h5⟩:=h
 ·exact .inl h1
 ·refine .inr (.inl ⟨z,hz,h2,?_⟩)
  have h6:=h5 z hz;have h7:=h4 z hz;by_cases h8:z.1=(k:Int)
  ·exact absurd h2 (h6 h8)
  ·omega
 ·exact .inr (.inr h1)
theorem LF.jp {E:gw}{d0:Int}{q:Nat->Prop}{i e k:Nat}{L:jC}{Vd:D Int}(h:LF E d0 q i e k L Vd)(hk:0<k)(h4:lC E.p k≠4):St E (kp L.m L.fS k) Vd (tF q L.fI L.fS (k+1))/\LX E d0 i e k (kp L.m L.fS k).fx L.fI L.gj L.fS Vd/\(kp L.m L.fS k).fv=d0:=by
 have a0:(kp L.m L.fS k).fx.length=L.m.fx.length:=(sw _ _ _ _).2;refine⟨⟨?_,?_,?_⟩,?_,h.jN⟩
 ·refine ja.nR (ja.jp (K:=(k:Int)) (w:=d0) (v:=L.m.fx.length) h.st.pos (by rw[h.st.at_,h.jN]) L.fS L.m.fx _ h.st.kG fun z hz _=>(h.lx.ex z hz).1) fun j hj=>Iu hj hk fun z hz hzk=>?_
  have h5:=(h.lx.ex z hz).2.2.2 (by omega);rw[hzk] at h5;exact h4 h5
 ·rw[a0]
  exact h.st.at_
 ·rw[a0]
  exact h.st.pos
 ·have:=h.lx.up (KJ.jp E.p L.m.fx L.fS k L.m.fx.length) []
  rw[Wu] at this;exact this
theorem LX.gj {E:gw}{d0:Int}{i e k:Nat}{iM:D fX}{fI gj:D Int}{fS:D (Int × Int)}{Vd:D Int}{h:Nat}(hx:LX E d0 i e k iM fI gj fS Vd)(hk:k<E.p.length)(hh0:0<h)(hh:Vd[h]?=F d0):LX E d0 i e (k+1) iM fI (gj.set k h) fS Vd:=
 ⟨hx.ex,hx.lv,by rw[VY];exact hx.hl,fun a h1 h2 h3=>by
  by_cases hak:a=k
  ·subst hak
   exact⟨h,by rw[WU (by rw[hx.hl];exact hk)],hh0,hh⟩
  ·obtain⟨g,h4,h6,h5⟩:=hx.hd a h1 (by omega) h3
   exact⟨g,by rw[Wy (fun e=>hak e.symm)];exact h4,h6,h5⟩⟩
theorem LX.skip {E:gw} {gj:D Int} {fS:D (Int × Int)} (hx:LX E d0 i e k iM fI gj fS Vd)(hk:lC E.p k≠5):LX E d0 i e (k+1) iM fI gj fS Vd:=
 ⟨hx.ex,hx.lv,hx.hl,fun a h1 h2 h3=>by
  by_cases hak:a=k
  ·subst hak;exact absurd h3 hk
  ·exact hx.hd a h1 fh h3⟩
theorem FS.begun (E:gw)(m:gA):FS E m m.begun 0:=⟨fun Vd q h=>⟨KJ.refl _ _,[],by rw[Wu];exact⟨h.kG,h.at_,h.pos⟩⟩,by simp[gA.begun]⟩
theorem wW {g:Prop} (f:g:=by
  have hS2:=hS1.pO (v:=m1.fv-1) (r:=tF q L.fI L.fS (k+1)) hit (fun hh=>by cases hh) (fun hh=>by cases hh) (fun j _ hh=>hh)
  exact⟨hK1.trans (KJ.l5 E.p m1.fx _),D1++[m1.fv-1],by rw[<-VM];exact⟨hS2,by show m1.fv-1=d0;omega,hX1.up (KJ.l5 E.p m1.fx _) _⟩⟩):g:=f
theorem Rl {E:gw} {rep:Int->gA->gA} {s:fV} {q:Nat->Prop} {L:jC} (hE:iH E)(hC:vY E.p)(hs:iS E s)(hr:yQ E rep fs)(hf:s.f=(i:Int))(he:gZ E.p i e)(h1:i<k)(h2:k<e)(hx:E.p[k]?=F x)
  (h0:0<=d0) (hw:s.iu=H->d0=E.fO) (h:LF E d0 q i e k L Vd):KJ E.p L.m.fx (kV E rep fs s e k x L).m.fx/\∃ D2,LF E d0 q i e (k+1) (kV E rep fs s e k x L) (Vd++D2):=by
 have aC:=(Vh.1 hx).1;have ag:=vL hx;obtain⟨i',e',z,w1,w2,w3,w4,w5⟩:=hs.rP;have az:i'=i:=by rw[hf] at w1;omega
 subst az;have ay:=w4.kR he;subst ay;obtain⟨n1,n2,n3,n4⟩:=w5 k x h1 h2 hx;unfold kV;simp only;by_cases k4:x.fC=4
 ·rw[Vs k4]
  have a4:(kp L.m L.fS k).fx.length=L.m.fx.length:=(sw _ _ _ _).2;have av:=ja.jp (K:=(k:Int)) (w:=d0) (v:=L.m.fx.length) h.st.pos (by rw[h.st.at_,h.jN]) L.fS L.m.fx _ h.st.kG fun z hz _=>(h.lx.ex z hz).1;have a6:=h.lx.up (KJ.jp E.p L.m.fx L.fS k L.m.fx.length) [];rw[Wu] at a6;have a5:St E (kp L.m L.fS k) Vd (fun j=>tF q L.fI L.fS k j/\∀ z∈L.fS,z.1=(k:Int)->z.2≠(j:Int)):=⟨av,by rw[a4];exact h.st.at_,by rw[a4];exact h.st.pos⟩
  have a0:(kp L.m L.fS k).fv=d0:=h.jN;change LX E d0 i' e' k (kp L.m L.fS k).fx L.fI L.gj L.fS Vd at a6;rw[<-a4];have a8:KJ E.p L.m.fx (kp L.m L.fS k).fx:=KJ.jp E.p L.m.fx L.fS k L.m.fx.length;generalize kp L.m L.fS (k:Int)=m0 at a5 a6 a0 a8 |-;have hit:pt E m0.fx.length (mP E m0 10 0 k s.ft) m0.fv:=qe fh fh fh fh fh fh fh fh fh fh fh;have hS1:=a5.pO (v:=d0) (r:=fun j=>(tF q L.fI L.fS k j/\∀ z∈L.fS,z.1=(k:Int)->z.2≠(j:Int))∨j=m0.fx.length) hit (fun hh=>by cases hh) (fun _=>.inl (.inr rfl)) (fun j _ hh=>.inl hh);have af:(zC E m0 10 0 k s.ft).gR d0=zC E m0 10 0 k s.ft:=by rw[<-a0];rfl
  have hJ:JF E.p (zC E m0 10 0 k s.ft).fx (Vd++[d0]) m0.fx.length d0:=by
   have:=JF.new (D2:=[d0]) (d:=d0) (code:=10) (arg:=0) (line:=k) (ft:=s.ft) a5 rfl (show jX E.p ⟨10,0⟩ m0.fv=d0 by rw[a0];rfl);rwa [af] at this
  rw[af] at hS1;have hX1:=a6.up (KJ.l5 E.p m0.fx [mP E m0 10 0 k s.ft]) [d0]
  have ap:∀ z∈mZ E.p k m0.fx.length (k-s.f.toNat) s.f.toNat,(z.2=(m0.fx.length:Int))/\z.1<=e'/\(k:Int)+1<=z.1:=by
   intro z hz;obtain⟨b,b1,b2,b3,b4⟩:=Ef _ _ _ _ _ z hz;rw[hf,Vy] at b1 b2;rcases Cv E.p b with hb | ⟨j,hb,ab⟩
   ·rw[hb] at b3;omega
   ·have aB:j=k:=fh
    subst aB;obtain⟨eb,ah,ax⟩:=ab.jD;obtain⟨y,hy,aD⟩:=ab.iff;have aF:b≠i':=fun hh=>by subst hh;rw[w2] at hy;injection hy with hy;subst hy;omega
    obtain⟨e2,g1,g2,g3⟩:=he.inner (x:=y) (i:=b) fh fh hy (by rw[aD];rfl);have:=ah.kR g1;subst this;rw[b4,g1.ju];exact⟨rfl,by simp only;omega,by simp only;omega⟩
  have au:∀ z∈L.fS++mZ E.p k m0.fx.length (k-s.f.toNat) s.f.toNat,(∃ j:Nat,z.2=j/\JF E.p (zC E m0 10 0 k s.ft).fx (Vd++[d0]) j d0)/\z.1<=e'/\-(e':Int)<z.1/\(z.1<0->lC E.p (-z.1)=4):=by
   intro z hz;rcases VA.1 hz with hz | hz
   ·exact hX1.ex z hz
   ·obtain⟨z1,z2,z3⟩:=ap z hz
    exact⟨⟨_,z1,hJ⟩,z2,fh,fh⟩
  have a9:(zC E m0 10 0 k s.ft).fx.length=m0.fx.length+1:=yx ..;have ad:(Vd++[d0])[(zC E m0 10 0 k s.ft).fx.length]?=F d0:=by rw[hS1.at_];rw[<-a0];rfl
  have aw:=ja.jp (K:=-(k:Int)) (w:=d0) (v:=(zC E m0 10 0 k s.ft).fx.length) (by rw[a9];omega) ad (L.fS++mZ E.p k m0.fx.length (k-s.f.toNat) s.f.toNat) _ _ hS1.kG fun z hz _=>(au z hz).1;have aa:(kp (zC E m0 10 0 k s.ft) (L.fS++mZ E.p k m0.fx.length (k-s.f.toNat) s.f.toNat) (-(k:Int))).fx.length=(zC E m0 10 0 k s.ft).fx.length:=(sw _ _ _ _).2;refine⟨(a8.trans (KJ.l5 E.p m0.fx [mP E m0 10 0 k s.ft])).trans (KJ.jp E.p _ _ _ _),[d0],⟨⟨?_,?_,?_⟩,?_,?_⟩⟩
  ·refine ja.nR aw fun j hj=>?_
   obtain⟨ac,aA⟩:=hj;rcases ac with⟨ac,ar⟩ | ac
   ·have:=Iu (k:=k) ⟨ac,ar⟩ fh
    obtain ha | ⟨z,hz,ha,hb⟩ | ha:=ac
    ·exact .inl ha
    ·refine .inr (.inl ⟨z,VN _ hz,ha,?_⟩)
     have g1:=ar z hz;have g2:=aA z (VN _ hz);by_cases g3:z.1=(k:Int)
     ·exact absurd ha (g1 g3)
     ·by_cases g4:z.1 = -(k:Int)
      ·exact absurd ha (g2 g4)
      ·omega
    ·exact .inr (.inr ha)
   ·obtain⟨a,a1,a2,a3⟩:=hC i' e' k z x he w2 w3 h1 h2 hx k4
    have hm:=Gt E.p k m0.fx.length (k-s.f.toNat) s.f.toNat a (by rw[hf,Vy];exact a1) (by rw[hf,Vy];omega) a3;have:=(ap _ hm).2.2;exact .inr (.inl ⟨_,VV _ hm,by rw[ac],.inl (by simp only at this |-;omega)⟩)
  ·show (Vd++[d0])[(kp _ _ _).fx.length]?=F _
   rw[aa,ad,<-a0];rfl
  ·show 0<(kp _ _ _).fx.length
   rw[aa,a9];omega
  ·exact a0
  ·have g1:LX E d0 i' e' k (zC E m0 10 0 k s.ft).fx L.fI L.gj (L.fS++mZ E.p k m0.fx.length (k-s.f.toNat) s.f.toNat) (Vd++[d0]):=⟨au,hX1.lv,hX1.hl,hX1.hd⟩
   have g2:=(g1.up (KJ.jp E.p _ (L.fS++mZ E.p k m0.fx.length (k-s.f.toNat) s.f.toNat) (-(k:Int)) (zC E m0 10 0 k s.ft).fx.length) []).skip (k:=k) (by rw[ag];omega);rw[Wu] at g2;exact g2
 ·rw[Vo k4]
  obtain⟨a5,a6,a0⟩:=h.jp fh (by rw[ag];exact k4);have a4:(kp L.m L.fS k).fx.length=L.m.fx.length:=(sw _ _ _ _).2;rw[<-a4];have a8:KJ E.p L.m.fx (kp L.m L.fS k).fx:=KJ.jp E.p L.m.fx L.fS k L.m.fx.length;generalize kp L.m L.fS (k:Int)=m0 at a5 a6 a0 a8 |-;by_cases k7:x.fC=7
  ·rw[Vs k7,Vo fh]
   rcases Bm E k s.ft L.gj (k-(s.f.toNat+1)) (s.f.toNat+1) m0 with⟨w,_⟩ | ⟨j,j1,j2,j3,j4,w⟩
   ·rw[w]
    exact⟨a8,[],by rw[Wu];exact⟨a5,a0,a6.skip (by rw[ag];omega)⟩⟩
   ·rw[w]
    rw[hf,Vy] at j1 j2;obtain⟨g,g1,g3,g2⟩:=a6.hd j fh (by have:=j3.lt;omega) j4;have hg:L.gj.getD j 0=(g:Int):=by rw[VR,g1];rfl
    have hit:pt E m0.fx.length (mP E m0 10 (L.gj.getD j 0) k s.ft) m0.fv:=qe fh fh fh fh fh fh fh fh fh fh fh;have hS1:=a5.pO (v:=d0) (r:=tF q L.fI L.fS (k+1)) hit (fun hh=>by cases hh) (fun _=>.inr ⟨g,hg,g3,by rw[g2,a0];rfl⟩) (fun j _ hh=>hh);have af:(zC E m0 10 (L.gj.getD j 0) k s.ft).gR d0=zC E m0 10 (L.gj.getD j 0) k s.ft:=by rw[<-a0];rfl
    rw[af] at hS1;exact⟨a8.trans (KJ.l5 E.p m0.fx _),[d0],hS1,a0,(a6.up (KJ.l5 E.p m0.fx _) [d0]).skip (by rw[ag];omega)⟩
  ·rw[Vo k7]
   have ae:=zr.1 (hE.pc.kind k x hx);have aj:sF x.fC=H:=CG ae n1 k4 k7;obtain⟨ex,e1,e2,e3⟩:=hE.pc.expr k x hx aj
   have g1:FS E m0 (tG E rep fs s k x.Expr m0.begun) 1:=by
    rw[e2,BK e1];rw[e2] at n2;have g:=Ex.kz (k:=(k:Int)) (s:=s) hr ex m0.begun e1 (by rw[hs.fM.1,hf];exact n2) (by simp only[gA.begun];omega);exact((FS.begun E m0).trans g).to fh
   obtain⟨K1,D1,hS1⟩:=g1.go Vd _ a5;have ao:=g1.jN;have hX1:=(a6.gj (h:=m0.fx.length) aC a5.pos (by rw[a5.at_,a0])).up K1 D1;have hK1:=a8.trans K1;clear K1;generalize tG E rep fs s k x.Expr m0.begun=m1 at g1 hS1 ao hX1 hK1 |-;have an:m1.fv=d0+1:=fh;by_cases k1:x.fC=1
   ·rw[Vs k1]
    have aq:=n4 k1;rw[<-hf,<-hs.fM.1] at aq;have aG:=AG s.fM x.fJ 0 aq;have g2:FS E m1 (ni E m1 s (so s.fM x.fJ 0) k s.ft) (-1):=E1 hs fh fh;obtain⟨K2,D2,hS2⟩:=g2.go _ _ hS1;exact⟨hK1.trans K2,D1++D2,by rw[<-VM];exact⟨hS2,by show (ni E m1 s _ k s.ft).fv=d0;rw[g2.jN];omega,hX1.up K2 D2⟩⟩
   ·rw[Vo k1]
    by_cases k2:x.fC=2
    ·rw[Vs k2]
     have g2:FS E m1 ((zC E m1 17 0 k s.ft).gR (m1.fv + -1)) (-1):=FS.emit (fun _=>qe fh fh fh fh fh fh fh fh fh fh fh) rfl (by simp[jX];omega);obtain⟨K2,D2,hS2⟩:=g2.go _ _ hS1;exact⟨hK1.trans K2,D1++D2,by rw[<-VM];exact⟨hS2,by show m1.fv-1=d0;omega,hX1.up K2 D2⟩⟩
    ·rw[Vo k2]
     by_cases k6:x.fC=6
     ·rw[Vs k6]
      unfold lH;simp only;by_cases ho:s.iu=H
      ·rw[Vs ho]
       have aI:=hw ho;by_cases hfr:E.gT=H
       ·rw[Vs hfr]
        have hit:pt E m1.fx.length (mP E m1 14 E.args k s.ft) m1.fv:=qe fh fh fh fh fh fh fh fh fh (fun _=>⟨hfr,rfl,fh⟩) fh;exact wW
       ·rw[Vo hfr]
        have ak:E.gT=M:=by simpa using hfr
        have hit:pt E m1.fx.length (mP E m1 16 (E.args+16*E.fO) k s.ft) m1.fv:=qe fh fh fh fh fh fh fh fh fh fh (fun _=>⟨ak,rfl,fh⟩);exact wW
      ·rw[Vo ho]
       simp only[WX,Yn];have hit:pt E m1.fx.length (mP E m1 10 0 k s.ft) m1.fv:=qe fh fh fh fh fh fh fh fh fh fh fh
       have hS2:=hS1.pO (v:=m1.fv-1) (r:=tF q (L.fI++[(m1.fx.length:Int)]) L.fS (k+1)) hit (fun hh=>by cases hh) (fun _=>.inl (.inr (.inr gm))) (fun j _ hh=>by
        rcases hh with hh | hh | hh
        ·exact .inl hh
        ·exact .inr (.inl hh)
        ·exact .inr (.inr (VN _ hh)))
       have a7:=hX1.up (KJ.l5 E.p m1.fx [mP E m1 10 0 k s.ft]) [m1.fv-1];refine⟨hK1.trans (KJ.l5 E.p m1.fx _),D1++[m1.fv-1],?_⟩;rw[<-VM];refine⟨hS2,by show m1.fv-1=d0;omega,a7.ex,fun a ha=>?_,a7.hl,a7.hd⟩;rcases VA.1 ha with ha | ha
       ·exact a7.lv a ha
       ·rw[Vi.1 ha]
        exact⟨_,rfl,JF.new hS1 rfl (show jX E.p ⟨10,0⟩ m1.fv=d0+1 by rw[an];rfl)⟩
     ·rw[Vo k6]
      have al:x.fC=3∨x.fC=5:=by
       clear hS1 a5 hX1 a6 ao g1 a0 an a4 w5 w4 n2 n3 n4 e3 a8 hK1;omega
      obtain⟨e2,b1,b2,b3⟩:=he.inner h1 h2 hx (by rcases al with hh | hh <;> rw[hh] <;> rfl);have ai:=b1.ju
      have am:∀ K:Int,K=(if x.fC=3/\0<=kH E.p k then -(kH E.p k) else jA E.p k+1)->K<=e'/\-(e':Int)<K/\(K<0->lC E.p (-K)=4)/\((k:Int)+1<=K∨(k:Int)+1<=-K):=by
       intro K hK;rw[ai] at hK;split at hK
       ·rename_i hc
        rcases Cv E.p k with hb | ⟨j,hb,ab⟩
        ·rw[hb] at hc;omega
        ·obtain⟨eb,ah,ax⟩:=ab.jD
         have:=ah.kR b1;subst this;have aH:=ab.lt;obtain⟨y,hy,aE⟩:=ab.AW;subst hK;rw[hb];refine⟨fh,fh,fun _=>?_,.inr fh⟩;rw[Int.neg_neg,vL hy,aE]
       ·subst hK
        exact⟨fh,fh,fh,.inl fh⟩
      generalize hKK:(if x.fC=3/\0<=kH E.p k then -(kH E.p k) else jA E.p k+1)=K;obtain⟨c1,c2,c3,c4⟩:=am K hKK.symm;have hit:pt E m1.fx.length (mP E m1 11 0 k s.ft) m1.fv:=qe fh fh fh fh fh fh fh fh fh fh fh
      have hS2:=hS1.pO (v:=m1.fv-1) (r:=tF q L.fI (L.fS++[(K,(m1.fx.length:Int))]) (k+1)) hit (fun _=>by simp[jX]) (fun _=>.inl (.inr (.inl ⟨(K,(m1.fx.length:Int)),gm,rfl,by simp only;omega⟩))) (fun j _ hh=>by
       rcases hh with hh | ⟨z,hz,hh⟩ | hh
       ·exact .inl hh
       ·exact .inr (.inl ⟨z,VN _ hz,hh⟩)
       ·exact .inr (.inr hh))
      have a7:=hX1.up (KJ.l5 E.p m1.fx [mP E m1 11 0 k s.ft]) [m1.fv-1];refine⟨hK1.trans (KJ.l5 E.p m1.fx _),D1++[m1.fv-1],?_⟩;rw[<-VM];refine⟨hS2,by show m1.fv-1=d0;omega,fun z hz=>?_,a7.lv,a7.hl,a7.hd⟩;rcases VA.1 hz with hz | hz
      ·exact a7.ex z hz
      ·rw[Vi.1 hz]
       exact⟨⟨_,rfl,JF.new hS1 rfl (show jX E.p ⟨11,0⟩ m1.fv=d0 by rw[an];simp[jX])⟩,c1,c2,c3⟩
theorem IG {E:gw} {rep:Int->Int->gA->gA} {s:fV} {q:Nat->Prop} (hE:iH E)(hC:vY E.p)(hs:iS E s)(hr:∀ k:Nat,k<E.p.length->yQ E (rep k) fs)(hf:s.f=(i:Int))(he:gZ E.p i e)(h0:0<=d0)(hw:s.iu=H->d0=E.fO) :
  ∀(n k:Nat) (L:jC) (Vd:D Int),i<k->k+n=e->LF E d0 q i e k L Vd->∃(L':jC) (D2:D Int) (x:fB),LF E d0 q i e e L' (Vd++D2)/\KJ E.p L.m.fx L'.m.fx/\E.p[e]?=F x/\x.fC=7/\oL E rep fs s e (E.p.drop k) (n+1) k L=kV E (rep e) fs s e e x L':=by
 intro n;induction n with
 | zero=>
  intro k L Vd a1 a2 h;obtain rfl:k=e:=fh;obtain⟨x,hx,h7⟩:=he.last;refine⟨L,[],x,by rw[Wu];exact h,KJ.refl _ _,hx,h7,?_⟩;obtain⟨hl,rfl⟩:=Vh.1 hx;rw[VB hl];show oL E rep fs s k (E.p.drop (k+1)) 0 (k+1) _=_;cases E.p.drop (k+1) <;> rfl
 | succ n ih=>
  intro k L Vd a1 a2 h;have a0:k<E.p.length:=by have:=he.len;omega
  have hx:E.p[k]?=F E.p[k]:=Vq a0;obtain⟨K1,D1,h1⟩:=Rl hE hC hs (hr k a0) hf he a1 fh hx h0 hw h;obtain⟨L',D2,x,h2,K2,h3,h4,h5⟩:=ih (k+1) _ _ fh fh h1;refine⟨L',D1++D2,x,by rw[<-VM];exact h2,K1.trans K2,h3,h4,?_⟩;rw[VB a0];exact h5
theorem Pk {E:gw} {gj:D Int} {fS:D (Int × Int)} (h:LX E d0 i e e iM fI gj fS Vd)(j:Nat):¬ Mb fS (e+1) j:=by
 rintro⟨z,hz,_,h2⟩;have:=(h.ex z hz).2;omega
theorem xX {g:Prop} (f:g:=by
  refine⟨D1,fun v=>?_⟩
  exact(hS1.kG.snoc (v:=v) hS1.at_ hit (fun hh=>by cases hh) (fun hh=>by cases hh) (fun j _ hh=>hpd j hh))):g:=f
theorem J9 {E:gw} {rep:Int->gA->gA} {s:fV} {q:Nat->Prop} {L:jC} (h1:i<e)(hx:E.p[e]?=F x)(h7:x.fC=7)(h0:0<=d0)(hw:s.iu=H->d0=E.fO)(h:LF E d0 q i e e L Vd) :
  (s.iu=M->(kV E rep fs s e e x L).fI=L.fI/\KJ E.p L.m.fx (kV E rep fs s e e x L).m.fx/\∃ D2,St E ((kV E rep fs s e e x L).m.gR (d0+1)) (Vd++D2) (fun j=>q j∨(j:Int)∈L.fI)/\(∀ a∈L.fI,∃ j:Nat,a=j/\JF E.p (kV E rep fs s e e x L).m.fx (Vd++D2) j (d0+1)))/\
  (s.iu=H->∃ D2,∀ v,ja E (kV E rep fs s e e x L).m.fx (Vd++D2++[v]) (fun j=>q j∨(j:Int)∈L.fI)):=by
 have a8:=vL hx;obtain⟨a4,a5,a6⟩:=h.jp (by omega) (by rw[a8];omega);unfold kV;simp only;rw[Vo (by omega),Vs h7];simp only[Xe];have a2:KJ E.p L.m.fx (kp L.m L.fS e).fx:=KJ.jp E.p L.m.fx L.fS e L.m.fx.length;generalize kp L.m L.fS (e:Int)=m0 at a4 a5 a6 a2 |-;have g1:FS E m0 (mx E m0 0 e s.ft) 1:=Ei (by omega);obtain⟨K1,D1,hS1⟩:=g1.go Vd _ a4;have a7:=g1.jN;have a0:=a5.up K1 D1;have a3:=a2.trans K1;clear K1;simp only[jC.wm];generalize mx E m0 0 e s.ft=m1 at g1 hS1 a7 a0 a3 |-;have a9:m1.fv=d0+1:=by omega
 have hpd:∀ j,tF q L.fI L.fS (e+1) j->q j∨(j:Int)∈L.fI:=fun j hj=>by
  rcases hj with hj | hj | hj
  ·exact .inl hj
  ·exact absurd hj (Pk a0 j)
  ·exact .inr hj
 refine⟨fun ho=>?_,fun ho=>?_⟩
 ·unfold lH
  rw[ho];simp only[WX,Yn,Xe,jC.wm];refine⟨trivial,a3,D1,⟨hS1.kG.nR hpd,?_,hS1.pos⟩,a0.lv⟩;show (Vd++D1)[m1.fx.length]?=F (d0+1);rw[hS1.at_,a9]
 ·unfold lH
  rw[ho];simp only[Xe,jC.wm];have aa:=hw ho;by_cases hfr:E.gT=H
  ·rw[Vs hfr]
   have hit:pt E m1.fx.length (mP E m1 14 E.args e s.ft) m1.fv:=qe (by omega) (by omega) (by omega) (by omega) (by omega) (by omega) (by omega) (by omega) (by omega) (fun _=>⟨hfr,rfl,by omega⟩) (by omega);exact xX
  ·rw[Vo hfr]
   have a1:E.gT=M:=by simpa using hfr
   have hit:pt E m1.fx.length (mP E m1 16 (E.args+16*E.fO) e s.ft) m1.fv:=qe (by omega) (by omega) (by omega) (by omega) (by omega) (by omega) (by omega) (by omega) (by omega) (by omega) (fun _=>⟨a1,rfl,by omega⟩);exact xX
structure qw (E:gw)(lines:D Int->fV->gA->gA × D Int)(d:Nat):Prop where
 inner:∀(fs:D Int) (s:fV) (m:gA) (i e:Nat) (Vd:D Int) (q:Nat->Prop),iS E s->s.fI = []->fs.length=s.ft.length+1->s.ft.length+d=3->s.f=(i:Int)->gZ E.p i e->0<=m.fv->s.iu=M->St E m Vd q->
  KJ E.p m.fx (lines fs s m).1.fx/\∃ D2,St E ((lines fs s m).1.gR (m.fv+1)) (Vd++D2) (fun j=>q j∨(j:Int)∈(lines fs s m).2)/\∀ a∈(lines fs s m).2,∃ j:Nat,a=j/\JF E.p (lines fs s m).1.fx (Vd++D2) j (m.fv+1)
 iu:∀(fs:D Int) (s:fV) (m:gA) (i e:Nat) (Vd:D Int),iS E s->s.fI = []->fs.length=s.ft.length+1->s.ft.length+d=3->s.f=(i:Int)->gZ E.p i e->0<=m.fv->s.iu=H->m.fv=E.fO->St E m Vd (fun _=>False)->
  ∃ D2,∀ v,ja E (lines fs s m).1.fx (Vd++D2++[v]) (fun _=>False)
theorem GP {E:gw} {s:fV} {k:Int} {last:Bool} {L:jC} (ho:s.iu=H):(lH E s k last L).fI=L.fI:=by
 unfold lH;rw[Vs ho];split <;> rfl
theorem GR {E:gw} {rep:Int->gA->gA} {s:fV} {L:jC} (ho:s.iu=H):(kV E rep fs s e k x L).fI=L.fI:=by
 unfold kV;simp only;split
 ·rfl
 ·split
  ·split
   ·rw[GP ho];rfl
   ·rfl
  ·split
   ·rfl
   ·split
    ·rfl
    ·split
     ·rw[GP ho]
     ·rfl
theorem GQ {E:gw}{rep:Int->Int->gA->gA}{fs:D Int}{s:fV}{e:Nat}(ho:s.iu=H):∀(l:D fB)(n k:Nat)(L:jC),(oL E rep fs s e l n k L).fI=L.fI
 | _,0,_,_=>by unfold oL;rfl
 | [],_+1,_,_=>rfl
 | x::r,n+1,k,L=>by
  show (oL E rep fs s e r n (k+1) _).fI=L.fI;rw[GQ ho r n (k+1),GR ho]
theorem MO {E:gw} {lines:D Int->fV->gA->gA × D Int} {s:fV} {d:Nat} (hE:iH E)(hs:iS E s)(hl:qw E lines d)(hfs:fs.length=s.ft.length+1)(hd:s.ft.length+(d+1)=3)(hk:k<E.p.length):yQ E (fun g m=>zL E lines fs k s g m) fs:=by
 intro g m hg a6 h0;have a2:s.ft.length<=2:=fh;have a4:0<=(k:Int)/\(k:Int)<E.p.length:=⟨fh,fh⟩
 have g1:=Pa (k:=(k:Int)) hE hs hg a4 a2 h0;have hx:=AK hE hs hg a4 a2;obtain⟨i,rfl,x,a8,a7⟩:=hg;obtain⟨e,he,_,_⟩:=hE.pc.body i x a8 a7;have a3:(kA E i k s).ft.length=s.ft.length+1:=by unfold kA;simp
 have a9:=g1.jN;refine⟨fun Vd q hS=>?_,?_⟩
 ·obtain⟨K1,D1,a5⟩:=g1.go Vd q hS
  obtain⟨K2,D2,a0,hJ⟩:=hl.inner (fs++[(i:Int)]) (kA E i k s) (pX E i k s m) i e _ q hx rfl (by rw[a3];simp[hfs]) (by rw[a3];omega) rfl he fh rfl a5;unfold zL;simp only;generalize pX E i k s m=m4 at *
  generalize lines (fs++[(i:Int)]) (kA E i k s) m4=R at *
  have a1:(oJ R.1.fx R.2 R.1.fx.length).length=R.1.fx.length:=(Bk _ _ _).2;refine⟨(K1.trans K2).trans (KJ.qB E.p _ _ _),D1++D2,?_⟩;rw[<-VM];refine⟨?_,?_,?_⟩
  ·refine ja.nR (ja.qB (w:=m4.fv+1) (v:=R.1.fx.length) a0.pos a0.at_ R.2 R.1.fx _ a0.kG hJ) fun j hj=>?_
   rcases hj.1 with h | h
   ·exact h
   ·exact absurd h hj.2
  ·show (Vd++D1++D2)[(oJ R.1.fx R.2 R.1.fx.length).length]?=F (m4.fv+1)
   rw[a1];exact a0.at_
  ·show 0<(oJ R.1.fx R.2 R.1.fx.length).length
   rw[a1];exact a0.pos
 ·show (pX E i k s m).fv+1=_
  omega
theorem Gx {E:gw} (hE:iH E)(hC:vY E.p){d:Nat}(hrep:∀(fs:D Int)(s:fV)(k:Nat),iS E s->fs.length=s.ft.length+1->s.ft.length+d=3->k<E.p.length->yQ E (fun g m=>zL E (zX E d) fs k s g m) fs):qw E (zX E (d+1)) d:=by
 have a6:∀(fs:D Int) (s:fV) (m:gA) (i e:Nat),s.f=(i:Int)->gZ E.p i e->s.fI = []->zX E (d+1) fs s m=((oL E (fun k g m=>zL E (zX E d) fs k s g m) fs s e (E.p.drop (i+1)) (e-(i+1)+1) (i+1) ⟨m,[],VP E.p.length 0,[]⟩).m,(oL E (fun k g m=>zL E (zX E d) fs k s g m) fs s e (E.p.drop (i+1)) (e-(i+1)+1) (i+1) ⟨m,[],VP E.p.length 0,[]⟩).fI):=by
  intro fs s m i e hf he a0;have a2:=he.lt;show vm E (fun fs s k g m=>zL E (zX E d) fs k s g m) fs s m=_;unfold vm;simp only[hf,he.ju,Vy,a0];rw[show e-(i+1)+1=e-i from fh]
 have a5:∀(m:gA) (i e:Nat) (Vd:D Int) (q:Nat->Prop),St E m Vd q->LF E m.fv q i e (i+1) ⟨m,[],VP E.p.length 0,[]⟩ Vd:=fun m i e Vd q hS=>
  ⟨⟨hS.kG.nR fun j hj=>.inl hj,hS.at_,hS.pos⟩,rfl,fun z hz=>(by cases hz),fun a ha=>(by cases ha),Wn,fun a h1 h2=>fh⟩
 refine⟨?_,?_⟩
 ·intro fs s m i e Vd q hs a0 a3 a4 hf he h0 ho hS
  have a2:=he.lt;obtain⟨L',D2,x,h1,K1,h2,h3,h4⟩:=IG (rep:=fun k g m=>zL E (zX E d) fs k s g m) hE hC hs (fun k hk=>hrep fs s k hs a3 a4 hk) hf he h0 (fun h=>by rw[ho] at h;cases h) (e-(i+1)) (i+1) _ Vd fh fh (a5 m i e Vd q hS);obtain⟨g1,_⟩:=J9 (rep:=fun g m=>zL E (zX E d) fs e s g m) (fs:=fs) (s:=s) a2 h2 h3 h0 (fun h=>by rw[ho] at h;cases h) h1;obtain⟨g2,g3,D3,g4,g5⟩:=g1 ho;rw[a6 fs s m i e hf he a0,h4];simp only;rw[g2];exact⟨K1.trans g3,D2++D3,by rw[<-VM];exact⟨g4,g5⟩⟩
 ·intro fs s m i e Vd hs a0 a3 a4 hf he h0 ho a7 hS
  have a2:=he.lt;obtain⟨L',D2,x,h1,K1,h2,h3,h4⟩:=IG (rep:=fun k g m=>zL E (zX E d) fs k s g m) hE hC hs (fun k hk=>hrep fs s k hs a3 a4 hk) hf he h0 (fun _=>a7) (e-(i+1)) (i+1) _ Vd fh fh (a5 m i e Vd _ hS);obtain⟨_,g1⟩:=J9 (rep:=fun g m=>zL E (zX E d) fs e s g m) (fs:=fs) (s:=s) a2 h2 h3 h0 (fun _=>a7) h1;obtain⟨D3,g4⟩:=g1 ho;have a1:=GQ (rep:=fun k g m=>zL E (zX E d) fs k s g m) (E:=E) (fs:=fs) (e:=e) ho (E.p.drop (i+1)) (e-(i+1)+1) (i+1) ⟨m,[],VP E.p.length 0,[]⟩;rw[h4,GR ho] at a1;rw[a6 fs s m i e hf he a0,h4];refine⟨D2++D3,fun v=>?_⟩;have:=g4 v;rw[<-VM];refine this.nR fun j hj=>?_;rcases hj with hj | hj
  ·exact hj
  ·rw[a1] at hj;cases hj
theorem N9 {E:gw} (hE:iH E)(hC:vY E.p):∀ d:Nat,qw E (zX E (d+1)) d:=by
 intro d;induction d with
 | zero=>
  refine Gx hE hC (fun fs s k hs hfs hd hk=>?_);intro g m _ a0;have h1:=(vH a0).1;have h2:=hE.inl.2;omega
 | succ d ih=>exact Gx hE hC (fun fs s k hs hfs hd hk=>MO hE hs ih hfs hd hk)
structure lm (E:gw)(L:D fX)(Vd:D Int):Prop where
 len:Vd.length=L.length
 it:∀(j:Nat) (x:fX) (d:Int),L[j]?=F x->Vd[j]?=F d->pt E j x d
 om:∀(j:Nat) (x:fX) (d:Int),L[j]?=F x->Vd[j]?=F d->AR x.Op.Code=H->Vd[j+1]?=F (jX E.p x.Op d)
 jump:∀(j:Nat) (x:fX) (d:Int),L[j]?=F x->Vd[j]?=F d->oO x.Op.Code=H->∃ t:Nat,x.Op.iz=t/\0<t/\Vd[t]?=F (jX E.p x.Op d)
 first:Vd[0]?=F 0
theorem ja.fn {E:gw} (h:∀ v,ja E L (Vd++[v]) (fun _=>False))(h0:Vd[0]?=F 0):lm E L Vd:=by
 have a0:Vd.length=L.length:=by have:=(h 0).len;simp at this;exact this
 have up:∀(t:Nat) (c v:Int),(Vd++[v])[t]?=F c->(Vd++[v+1])[t]?=F c->Vd[t]?=F c:=by
  intro t c v h1 h2;rcases Fw h1 with⟨h3,h4⟩ | ⟨h3,h4⟩
  ·exact h4
  ·rcases Fw h2 with⟨h5,h6⟩ | ⟨h5,h6⟩
   ·exact h6
   ·omega
 refine⟨a0,fun j x d h1 h2=>(h 0).it j x d h1 (sE h2),fun j x d h1 h2 h3=>?_,fun j x d h1 h2 h3=>?_,h0⟩
 ·exact up _ _ 0 ((h 0).om j x d h1 (sE h2) h3) ((h (0+1)).om j x d h1 (sE h2) h3)
 ·rcases(h 0).jump j x d h1 (sE h2) h3 with hh | ⟨t,t1,t0,t2⟩
  ·exact absurd hh id
  ·rcases(h 1).jump j x d h1 (sE h2) h3 with hh | ⟨u,u1,_,u2⟩
   ·exact absurd hh id
   ·have:t=u:=fh
    subst this;exact⟨t,t1,t0,up t _ 0 t2 u2⟩
theorem RI (h:zA p=H):vY p:=by
 intro i e j x y he hx h0 h1 h2 hy h4;obtain⟨e',a1,hb⟩:=(qC h).body i x hx h0;have:=a1.kR he;subst this;have hl:=Em hb h1 h2 hy;unfold pB at hl
 have a0:rZ p i j=H:=by
  simp only[Vt,VD,h4] at hl;simp_all
 unfold rZ at a0;obtain⟨a,ha,hb⟩:=Xs.1 a0;have:=List.mem_range'_1.1 ha;exact⟨a,fh,fh,XH hb⟩
theorem O5 {q:D fB} (hk:iP p q)(h:vY p):vY q:=by
 intro i e j x y he hx h0 h1 h2 hy h4;obtain⟨x',a0,e1⟩:=hk.symm.ex hx;obtain⟨y',a4,e2⟩:=hk.symm.ex hy;obtain⟨a,a1,a2,a3⟩:=h i e j x' y' (hk.symm.ends he) a0 fh h1 h2 a4 fh;exact⟨a,a1,a2,by rw[<-hk.AW];exact a3⟩
def sc (p:D fB)(b:gP)(f:Nat)(fO:Int):gw:=⟨p,b.gN,kZ b f,fO,((zD p (((zn p)[f]?).getD 0)).length:Int)⟩
theorem Gs (hp:lq p)(hC:vY p)(hb:gE b.gN 0 3=H)(hf:f<(zn p).length)(hw:0<=fO/\fO<=100):∃ Vd,lm (sc p b f fO) (lI p b f fO).1 Vd:=by
 have hg:(zn p)[f]?=F (zn p)[f]:=Vq hf;have hfun:=vI hg;unfold lI sc;rw[hg];simp only[WM];generalize (zn p)[f]=g at hfun
 have hE:iH ⟨p,b.gN,kZ b f,fO,((zD p g).length:Int)⟩:=by
  exact ug
 have a1:=hfun.parts hE;simp only at a1;obtain⟨i,rfl,x,hx,h0⟩:=hfun;obtain⟨e,he,h8,hbody⟩:=hp.body i x hx h0;have a2:(⟨p,b.gN,kZ b f,fO,((zD p (i:Int)).length:Int)⟩:gw).gT=kZ b f:=rfl;have a6:(⟨p,b.gN,kZ b f,fO,((zD p (i:Int)).length:Int)⟩:gw).fO=fO:=rfl;generalize hEE:(⟨p,b.gN,kZ b f,fO,((zD p (i:Int)).length:Int)⟩:gw)=E at hE a2 a6 |-;have hEp:E.p=p:=by rw[<-hEE]
 have hEa:E.args=((zD p (i:Int)).length:Int):=by rw[<-hEE]
 have hs:iS E ⟨i,[],zu p i,0,H,[]⟩:=by
  exact xp
 have a0:(if kZ b f=H then (13:Int) else 15)=13/\E.gT=H∨(if kZ b f=H then (13:Int) else 15)=15/\E.gT=M:=by
  rw[a2];cases kZ b f <;> simp
 generalize (if kZ b f=H then (13:Int) else 15)=code at a0 |-
 have hm:St E ((zC E ⟨[],0,((zu p i).length:Int)-((zD p (i:Int)).length:Int),M⟩ code fO i []).gR fO) [0,fO] (fun _=>False):=by
  have a5:pt E 0 (mP E ⟨[],0,((zu p i).length:Int)-((zD p (i:Int)).length:Int),M⟩ code fO i []) 0:=qe (m:=⟨[],0,((zu p i).length:Int)-((zD p (i:Int)).length:Int),M⟩) (code:=code) fh (Xv _) fh fh fh fh fh (fun _=>⟨rfl,hw.1,by rcases a0 with⟨h1,h2⟩ | ⟨h1,h2⟩ <;> first | exact h2 | omega⟩) (fun hh=>⟨hw.1,fun _=>by rcases a0 with⟨h1,h2⟩ | ⟨h1,h2⟩ <;> first | exact h2 | omega⟩) fh fh;have a3:ja E [] [0] (fun _=>False):=⟨rfl,fun j x d h=>by simp at h,fun j x d h=>by simp at h,fun j x d h=>by simp at h⟩
  refine⟨?_,by simp[zC,gA.gR],by simp[zC,gA.gR]⟩
  exact a3.snoc (v:=fO) rfl a5 (fun _=>by
   show fO=jX E.p ⟨code,fO⟩ 0
   rcases a0 with⟨h1,h2⟩ | ⟨h1,h2⟩ <;> (rw[h1];simp[jX])) (fun hh=>by
   change oO code=H at hh
   rcases a0 with⟨h1,h2⟩ | ⟨h1,h2⟩ <;> (rw[h1] at hh;cases hh)) (fun j _ hh=>hh)
 have a4:((zC E ⟨[],0,((zu p i).length:Int)-((zD p (i:Int)).length:Int),M⟩ code fO i []).gR fO).fv=fO:=rfl;generalize (zC E ⟨[],0,((zu p i).length:Int)-((zD p (i:Int)).length:Int),M⟩ code fO i []).gR fO=U8 at hm a4 |-;obtain⟨D2,hD⟩:=(N9 hE (by rw[hEp];exact hC) 3).iu [(i:Int)] ⟨i,[],zu p i,0,H,[]⟩ U8 i e [0,fO] hs rfl rfl rfl rfl (by rw[hEp];exact he) fh rfl fh hm;exact⟨[0,fO]++D2,ja.fn hD rfl⟩
theorem G7 (p:D fB)(k:Int):zD (p.map zW) k=zD p k:=by
 unfold zD;rw[Xw];cases p[k.toNat]? <;> rfl
theorem IS (p:D fB)(g:Int):tD (p.map zW) g=tD p g:=by unfold tD;rw[uO,G7]
def AI (p:D fB)(b:gP)(f:Nat):Int:=(lI (if b.iO=H then qE p else p) b f 0).2
theorem lm.fold (h:lm (sc (p.map zW) b f fO) L Vd):lm (sc p b f fO) L Vd:=by
 have ho:∀(x:mT) (d:Int),jX (p.map zW) x d=jX p x d:=fun x d=>by unfold jX;rw[IS]
 have ha:(sc (p.map zW) b f fO).args=(sc p b f fO).args:=by unfold sc;simp only[uO,G7]
 refine⟨h.len,fun j x d h1 h2=>?_,fun j x d h1 h2 h3=>?_,fun j x d h1 h2 h3=>?_,h.first⟩
 ·have g:=h.it j x d h1 h2
  exact⟨g.code,g.vE,g.jN,g.pos,fun c=>by rw[<-ha];exact g.sf c,fun c=>by rw[<-ha];exact g.ss c,g.two,g.one,fun c=>by
   have:=g.call c;simp only[sc,uO,IS] at this |-
   exact this,g.uJ,g.Cj,fun c=>by rw[<-ha];exact g.re c,fun c=>by rw[<-ha];exact g.ret c⟩
 ·have g:=h.om j x d h1 h2 h3
  simp only[sc,ho] at g |-;exact g
 ·have g:=h.jump j x d h1 h2 h3
  simp only[sc,ho] at g |-;exact g
theorem MX (hp:zA p=H)(hb:kC b=H)(hf:f<(zn p).length):0<=AI p b f/\AI p b f<=40/\∃ Vd,lm (sc p b f (AI p b f)) (zx p b f) Vd:=by
 have hF:=qC hp;have hC:=RI hp;unfold kC at hb;rw[Vt] at hb;unfold zx AI;simp only;split
 ·have a1:qE p=p.map zW:=by unfold qE;rw[Vs hp]
  rw[a1];have a0:f<(zn (p.map zW)).length:=by rw[uO];exact hf
  obtain⟨_,_,_,h4,h5⟩:=zm (fO:=0) hF.fold hb.2 a0 ⟨fh,fh⟩;obtain⟨Vd,hD⟩:=Gs (fO:=(lI (p.map zW) b f 0).2) hF.fold (O5 (CF p) hC) hb.2 a0 ⟨h4,fh⟩;exact⟨h4,h5,Vd,hD.fold⟩
 ·obtain⟨_,_,_,h4,h5⟩:=zm (fO:=0) hF.c hb.2 hf ⟨fh,fh⟩
  obtain⟨Vd,hD⟩:=Gs (fO:=(lI p b f 0).2) hF.c hC hb.2 hf ⟨h4,fh⟩;exact⟨h4,h5,Vd,hD⟩
end Go.Proofs.YthgbglbaemelhaaGreat
