/-
  PART.
-/
import Derived.Test.YthgbglbaemelhaaGreatM18LawSlices
import Derived.Test.YthgbglbaemelhaaGreatM23LawSlices
set_option linter.unusedVariables false
set_option linter.unusedSimpArgs false
set_option maxRecDepth 100000
set_option maxHeartbeats 8000000
namespace Go.Proofs.YthgbglbaemelhaaGreat
open Value renaming slice->G,int->J,bool->H,string->V
open IntKind renaming i64->C,wrap->QP
open Option renaming none->D,some->Z
open Obj renaming cells->F
open Bool renaming false->I,true->M
open Go renaming World->U,Calls->Rh,Addr->Ri,yielded->Su
open RowKit renaming intOf->Ry
open _root_.Nat renaming add_zero->RK
open List renaming take_zero->Sd
open Region renaming wanted->Rx,ready->RL,noSelect->Tn,free->Ui
open Tryz
open Go.RowKit
variable {A A0 A1 A2:X Ri}{L S:Q Nat}{W w:U}{ars:Q Int}{c c0 c1 c2 gb k n:Nat}{e:TypeId}{names vars:Q N}{o out:Q fv}
theorem sB {α:Type} {T:Ty α} (hf:kA T){e:TypeId}{W W':U}{L:Q Nat}{A:X Ri}{n c:Nat}{xs:Q α}(h:(T.sl e).R W W.heap.size [G A n c] xs)(hs:fw L W W')(hk:∀ ad,A=Z ad->ad.block∉L):(T.sl e).R W' W'.heap.size [G A n c] xs:=by
 exact ue
theorem Ak {α:Type} {T:Ty α} (h1s:T.size=1){W:U}{B:Nat}{g off:Nat}{n c:Nat}{xs:Q α}(h:(T.sl e).R W B [G (Z ⟨g,off,D⟩) n c] xs){lo m:Nat}(hm:lo+m<=xs.length):(T.sl e).R W B [G (Z ⟨g,off+lo,D⟩) m (c-lo)] ((xs.drop lo).take m):=by
 obtain⟨A',c',h1,h2,h3,h4,h5⟩:=h;injection h1 with h1 h1'
 injection h1 with hA hn hc
 subst hA hc hn;have a0:((xs.drop lo).take m).length=m:=by rw[Sj,SU];omega
 refine⟨Z ⟨g,off+lo,D⟩,c-lo,by rw[a0],by rw[a0];omega,by omega,(fun h=>by simp at h),fun hp=>?_⟩;rw[a0] at hp;obtain⟨g',a1,he,hg,h6⟩:=h5 (by omega);injection he with he
 injection he with he1 he2
 subst he1 he2;refine⟨_,_,rfl,hg,fun i x hx=>?_⟩;have hi:i<m:=by have:=(QM.1 hx).1;rw[a0] at this;exact this
 rw[List.getElem?_take_of_lt hi,Tw] at hx;obtain⟨ec,hR,hc⟩:=h6 (lo+i) x hx;refine⟨ec,hR,fun j u hu=>?_⟩;have:=hc j u hu;rw[h1s,Tq] at this |-;rw[<-this];congr 2;omega
structure iQ (w Y W:U)(k gb:Nat)(A0:X Ri)(c0:Nat)(vars:Q N)(A1:X Ri)(c1:Nat)(names:Q N)(A2:X Ri)(c2:Nat)(ars:Q Int)(A:X Ri)(n c:Nat)(out:Q fv)(S:Q Nat)(m:Nat):Prop where
 st:gM zJ 99 w Y W k A n c out S
 bx:jD W k gb A0 c0 vars A1 c1 names A2 c2 ars
 le:m<=W.heap.size
 lb:gb<m
 l0:∀ ad,A0=Z ad->ad.block<m
 l1:∀ ad,A1=Z ad->ad.block<m
 l2:∀ ad,A2=Z ad->ad.block<m
 db:gb∉S
 d0:∀ ad,A0=Z ad->ad.block∉S
 d1:∀ ad,A1=Z ad->ad.block∉S
 d2:∀ ad,A2=Z ad->ad.block∉S
section
variable {w Y W W':U} {k gb:Nat} {A0:X Ri} {c0:Nat} {vars:Q N} {A1:X Ri} {c1:Nat} {names:Q N} {A2:X Ri} {c2:Nat} {ars:Q Int} {A:X Ri} {n c:Nat} {out:Q fv} {S:Q Nat} {m:Nat}
theorem jD.on (h:jD W k gb A0 c0 vars A1 c1 names A2 c2 ars)(hs:fw L W W')(hb:gb∉L)(h0:∀ ad,A0=Z ad->ad.block∉L)(h1:∀ ad,A1=Z ad->ad.block∉L)(h2:∀ ad,A2=Z ad->ad.block∉L):jD W' k gb A0 c0 vars A1 c1 names A2 c2 ars:=
 ⟨(hs.block gb ((blt h.iU)) hb).trans h.iU,⟨sB lq h.nK.v hs h0,sB lq h.nK.n hs h1,sB zD h.nK.a hs h2,h.nK.kv,h.nK.kn,h.nK.ka,h.nK.len,h.nK.ar,h.nK.lv,h.nK.ln⟩,h.ne,h.some_⟩
theorem iQ.fx (h:iQ w Y W k gb A0 c0 vars A1 c1 names A2 c2 ars A n c out S m)(hg:ft W W'):iQ w Y W' k gb A0 c0 vars A1 c1 names A2 c2 ars A n c out S m:=
 ⟨h.st.fx hg,h.bx.fx hg,Rj h.le hg.size,h.lb,h.l0,h.l1,h.l2,h.db,h.d0,h.d1,h.d2⟩
theorem iQ.call (h:iQ w Y W k gb A0 c0 vars A1 c1 names A2 c2 ars A n c out S m)(hs:fw [k] W W')(hC:iM w W' k):iQ w Y W' k gb A0 c0 vars A1 c1 names A2 c2 ars A n c out S m:=
 ⟨h.st.call hs hC,h.bx.only hs,Rj h.le hs.size,h.lb,h.l0,h.l1,h.l2,h.db,h.d0,h.d1,h.d2⟩
theorem iQ.next {A':X Ri}{c' L:Nat}{out':Q fv}{S' Sy:Q Nat}(h:iQ w Y W k gb A0 c0 vars A1 c1 names A2 c2 ars A n c out S m)(hon:fw S W W')(hH:Has (zJ.sl 99) W' [G A' L c'] out' S')(hS:∀ b∈S',b∈S∨b∈Sy∨W.heap.size<=b)(hSy:∀ b∈Sy,m<=b/\Y.heap.size<=b)(hL:L=out'.length):iQ w Y W' k gb A0 c0 vars A1 c1 names A2 c2 ars A' L c' out' S' m:=by
 have a0:∀ q,q<m->q∉S->q∉S':=fun q hq hn hm=>by
  rcases hS q hm with h1 | h1 | h1
  ·exact hn h1
  ·have:=(hSy q h1).1;omega
  ·have:=h.le;omega
 exact⟨h.st.next hon hH hS (fun b hb=>(hSy b hb).2) hL,h.bx.on hon h.db h.d0 h.d1 h.d2,Rj h.le hon.size,h.lb,h.l0,h.l1,h.l2,a0 _ h.lb h.db,fun ad e=>a0 _ (h.l0 ad e) (h.d0 ad e),fun ad e=>a0 _ (h.l1 ad e) (h.d1 ad e),fun ad e=>a0 _ (h.l2 ad e) (h.d2 ad e)⟩
end
def su (x:fv):Prop:=x.Expr.length<=7/\x.fM.length<=4
theorem CY (h:∀ x∈out,su x){y:fv}(hy:su y):∀ x∈out++[y],su x:=by
 exact vt
theorem Pd (h:∀ x∈out,su x)(ho:∀ x∈o,rQ x):∀ x∈out++o,su x:=fun x hx=>(Q7.1 hx).elim (h x) (fun hm=>⟨(ho x hm).2.1,by rw[(ho x hm).2.2];decide⟩)
def oW (l:Q fv):Nat:=(l.filter fun x=>decide (x.Kind=0)).length
theorem Aw (a b:Q fv):oW (a++b)=oW a+oW b:=by unfold oW;rw[UE,QR]
theorem MU (h:∀ x∈o,rQ x):oW o=0:=by
 unfold oW;rw[Tj,Un];intro x hx;simpa using(h x hx).1
theorem FW:∀(l:Q fv)(i:Nat),(lf l i).length=oW l
 | [],_=>rfl
 | x::r,i=>by
  unfold lf;have ih:=FW r (i+1);by_cases h:x.Kind=0
  ·rw[Q5 h];simp[oW,h] at ih |-;exact ih
  ·rw[QZ h];simp[oW,h] at ih |-;exact ih
def PK (w W:U)(k:Nat)(e:Ending)(W':U):Prop:=∃ A n c out S,e=.returned (G A n c)/\n<=500/\(∀ x∈out,su x)/\oW out<=4/\gM zJ 99 w W W' k A n c out S
def tD:Q N:=[{ data:=#[109,97,105,110] },{ data:=#[102] },{ data:=#[103,103] },{ data:=#[104] }]
def sj:Q Int:=[0,1,2,1]
theorem FQ {w:U}:∀{xs:Q N},(∀ x∈xs,x.size<=9223372036854775807)->Rows iH w (xs.map V) xs []
 | [],_=>⟨rfl,rfl⟩
 | x::xs,h=>⟨[V x],xs.map V,[],[],rfl,rfl,⟨rfl,h x Tc,rfl⟩,FQ fun y hy=>h y (Sm _ hy)⟩
theorem yd {cs:Array Value} {g:Nat} (xs:Q N)(hcs:cs.toList=xs.map V)(hn:n=xs.length)(hg:g=W.heap.size)(hb:∀ x∈xs,x.size<=9223372036854775807)(hl:xs.length<=1000):(iH.sl e).R (W.alloc (F cs e)) (W.alloc (F cs e)).heap.size [G (Z ⟨g,0,D⟩) n n] xs:=by
 subst hn hg
 have h:(iH.sl e).O (W.alloc (F cs e)) [G (Z ⟨W.heap.size,0,D⟩) xs.length xs.length] xs (W.heap.size::[]):=
  pS (QO W _) (by rw[hcs];exact FQ hb) (by omega)
 exact Ty.read _ h
theorem vu {g:Prop} (f:g:=by
  rcases this with rfl | rfl | rfl | rfl <;> exact⟨⟨by decide,by decide⟩,by decide,by decide⟩):g:=f
theorem AJ:∀ a∈sj,fD a/\0<=a/\a<=2:=by
 intro a ha;have:a=0∨a=1∨a=2∨a=1:=by simpa[sj] using ha
 exact vu
theorem Hj {α:Type} {T:Ty α} (h1s:T.size=1){W:U}{B g kk nn:Nat}{xs:Q α}(h:(T.sl e).R W B [G (Z ⟨g,0,D⟩) 4 4] xs)(hx:xs.length=4)(h1:kk+1<=nn)(h2:nn<=4) :
  (T.sl e).R W B [G (if kk=3 then Z ⟨g,0,D⟩ else Z ⟨g,kk+1,D⟩) (nn-(kk+1)) (3-kk)] ((xs.drop (kk+1)).take (nn-(kk+1))):=by
 by_cases hk:kk=3
 ·subst hk
  rw[Q5 rfl,show nn-(3+1)=0 from by omega,Sd];exact⟨_,_,rfl,QX _,by decide,(fun h=>by simp at h),fun hp=>absurd hp (TS 0)⟩
 ·rw[QZ hk]
  have:=Ak (lo:=kk+1) (m:=nn-(kk+1)) h1s h (by omega);rw[Rk,show 4-(kk+1)=3-kk from by omega] at this;exact this
theorem Ha {α:Type} {kk nn:Nat} {xs:Q α} (hx:xs.length=4)(h1:kk+1<=nn)(h2:nn<=4):((xs.drop (kk+1)).take (nn-(kk+1))).length=nn-(kk+1):=by
 rw[Sj,SU];omega
theorem OA {α:Type} {T:Ty α} {xs:Q α} (h:Has (T.sl e) W [G A n c] xs S):∀ ad,A=Z ad->ad.block∈S:=by
 obtain⟨⟨A',c',a0,S',h1,_,_,rfl⟩,_⟩:=h;injection h1 with h1 _
 injection h1 with hA _ _
 subst hA;rintro ad rfl;simp[kj]
theorem jD.mk' {n0:Nat} {n1:Nat} {n2:Nat} (hb:W.heap[gb]?=Z (F #[.pointer (Z ⟨k,0,D⟩),G A0 n0 c0,G A1 n1 c1,G A2 n2 c2] 219 (0,0)))
  (e0:n0=vars.length) (e1:n1=names.length) (e2:n2=ars.length) (hv:(iH.sl 9).R W W.heap.size [G A0 n0 c0] vars) (hn:(iH.sl 9).R W W.heap.size [G A1 n1 c1] names) (ha:(zr.sl 3).R W W.heap.size [G A2 n2 c2] ars)
  (kv:∀ ad,A0=Z ad->ad.block≠k) (kn:∀ ad,A1=Z ad->ad.block≠k) (ka:∀ ad,A2=Z ad->ad.block≠k) (har:∀ a∈ars,0<=a/\a<=2) (h12:n1=n2) (lv:n0<=1000) (ln:n1<=1000) (ne:gb≠k) (h0:0<n0):jD W k gb A0 c0 vars A1 c1 names A2 c2 ars:=by
 subst e0 e1 e2;exact⟨hb,⟨hv,hn,ha,kv,kn,ka,h12,har,lv,ln⟩,ne,h0⟩
theorem gM.over {α:Type} {T:Ty α} {t:TypeId} {W0 W':U} {out:Q α} (h:gM T t w W0 W k A n c out S)(hon:fw L W W')(hk:k∉L)(hL:∀ b∈L,b∉S/\W0.heap.size<=b):gM T t w W0 W' k A n c out S:=
 ⟨h.cur.only hon hk (fun b hb=>by have:=(hL b hb).2;have:=h.vD;have:=h.cur.lo;omega),h.only.then hon (fun x hx=>.inr (hL x hx).2),h.has.fJ hon (fun b hb hm=>(hL b hm).1 hb),h.lo,h.vD,h.len⟩
theorem iQ.set {Y:U} {m:Nat} (h:iQ w Y W k gb A0 c0 vars A1 c1 names A2 c2 ars A n c out S m)
  {B1:X Ri} {n1 d1:Nat} {names':Q N} {B2:X Ri} {n2 d2:Nat} {ars':Q Int} (hn:(iH.sl 9).R W W.heap.size [G B1 n1 d1] names') (ha:(zr.sl 3).R W W.heap.size [G B2 n2 d2] ars') (e1:n1=names'.length) (e2:n2=ars'.length)
  (b1:∀ ad,B1=Z ad->ad.block<m/\ad.block≠k/\ad.block∉S/\ad.block≠gb) (b2:∀ ad,B2=Z ad->ad.block<m/\ad.block≠k/\ad.block∉S/\ad.block≠gb) (h12:n1=n2) (har:∀ a∈ars',0<=a/\a<=2) (ln:n1<=1000) (hv:∀ ad,A0=Z ad->ad.block≠gb) (hY:Y.heap.size<=gb) :
  iQ w Y ((W.setCell ⟨gb,2,D⟩ (G B1 n1 d1)).setCell ⟨gb,3,D⟩ (G B2 n2 d2)) k gb A0 c0 vars B1 d1 names' B2 d2 ars' A n c out S m:=by
 have a0:fw [gb] W ((W.setCell ⟨gb,2,D⟩ (G B1 n1 d1)).setCell ⟨gb,3,D⟩ (G B2 n2 d2)):=((fw.refl [gb] W).setCell (by simp) _).setCell (by simp) _;have hb:=zN (zN h.bx.iU 2 (G B1 n1 d1)) 3 (G B2 n2 d2);have hx:=h.bx
 exact⟨h.st.over a0 (by simpa using hx.ne.symm) (fun b hm=>by simp only[QN] at hm;subst hm;exact⟨h.db,hY⟩),
  jD.mk' hb rfl e1 e2 (sB lq hx.nK.v a0 (fun ad e=>by simpa using hv ad e)) (sB lq hn a0 (fun ad e=>by simpa using(b1 ad e).2.2.2)) (sB zD ha a0 (fun ad e=>by simpa using(b2 ad e).2.2.2)) hx.nK.kv (fun ad e=>(b1 ad e).2.1) (fun ad e=>(b2 ad e).2.1) har h12 hx.nK.lv ln hx.ne hx.some_,
  Rj h.le a0.size,h.lb,h.l0,fun ad e=>(b1 ad e).1,fun ad e=>(b2 ad e).1,h.db,h.d0,fun ad e=>(b1 ad e).2.2.1,fun ad e=>(b2 ad e).2.2.1⟩
theorem zsZ (hC:iM w W k):Rh prog 101 #[.pointer (Z ⟨k,0,D⟩)] W (PK w W k):=by
 go_enter func101,ntmps101;go_upto_region 3 with(fail);have aH:ft W ((W.alloc (F #[V { data:=#[109,97,105,110] },V { data:=#[102] },V { data:=#[103,103] },V { data:=#[104] }] 9)).alloc (F #[J C 0,J C 1,J C 2,J C 1] 3)):=gG
 have ai:(iH.sl 9).R ((W.alloc (F #[V { data:=#[109,97,105,110] },V { data:=#[102] },V { data:=#[103,103] },V { data:=#[104] }] 9)).alloc (F #[J C 0,J C 1,J C 2,J C 1] 3)) ((W.alloc (F #[V { data:=#[109,97,105,110] },V { data:=#[102] },V { data:=#[103,103] },V { data:=#[104] }] 9)).alloc (F #[J C 0,J C 1,J C 2,J C 1] 3)).heap.size [G (Z ⟨W.heap.size,0,D⟩) 4 4] tD:=by
  have h:=yd (W:=W) (e:=9) (cs:=#[V { data:=#[109,97,105,110] },V { data:=#[102] },V { data:=#[103,103] },V { data:=#[104] }]) (n:=4) (g:=W.heap.size) tD rfl rfl rfl (by decide) (by decide);exact Ty.up _ h gG
 have ao:(zr.sl 3).R ((W.alloc (F #[V { data:=#[109,97,105,110] },V { data:=#[102] },V { data:=#[103,103] },V { data:=#[104] }] 9)).alloc (F #[J C 0,J C 1,J C 2,J C 1] 3)) ((W.alloc (F #[V { data:=#[109,97,105,110] },V { data:=#[102] },V { data:=#[103,103] },V { data:=#[104] }] 9)).alloc (F #[J C 0,J C 1,J C 2,J C 1] 3)).heap.size [G (Z ⟨W.heap.size+1,0,D⟩) 4 4] sj:=Db sj rfl rfl (by simp) (fun a ha=>(AJ a ha).1) (by decide);have ay:((W.alloc (F #[V { data:=#[109,97,105,110] },V { data:=#[102] },V { data:=#[103,103] },V { data:=#[104] }] 9)).alloc (F #[J C 0,J C 1,J C 2,J C 1] 3)).heap.size=W.heap.size+2:=by simp
 generalize ((W.alloc _).alloc _)=Y at aH ai ao ay |-;obtain⟨gn,aJ⟩:∃ g,W.heap.size=g:=⟨_,rfl⟩
 have bV:=hC.lt;have bh:=hC.more aH;have bg:=fh aH;have bv:=fh aJ;rw[aJ] at ai ao ay bV |-;clear aJ aH;go_upto_region 5 with(go_at_call 36;(with_reducible refine(nO bh 4 (by decide) (by decide)).mono ?_);rintro e W1 ⟨n0,rfl,c0,az,aD⟩;have c4:QP C (1+(n0:Int))=1+n0:=iw);go_upto_if 999 with(fail)
 have h0:=gM.emp (T:=zJ) (t:=99) az aD bh.lt;generalize (W1.alloc _)=Y1 at h0 |-;obtain⟨nn,bs⟩:∃ nn:Nat,(nn:Int)=1+n0:=⟨1+n0,by omega⟩
 rw[<-bs];have a8:nn<=4:=by omega
 clear az aD bs c4 c0;go_loopw [6,7] (fun o i wr=>∃(kk n6:Nat) (A6:X Ri) (c6:Nat) (out:Q fv) (S:Q Nat),o=G A6 n6 c6/\i=J C kk/\kk<=nn/\n6<=kk*103/\oW out<=kk/\Hid (∀ x∈out,su x)/\Hid (gM zJ 99 w Y wr k A6 n6 c6 out S)) (fun _ i _=>nn-(Ry i).toNat)
 case atStart=>exact⟨0,0,_,0,[],_,rfl,rfl,QX _,QX _,QX _,fh (fun x hx=>by cases hx),fh h0⟩
 clear h0;obtain⟨kk,n6,A6,c6,out,S,rfl,rfl,ck,cm,ch,HL,HG⟩:=hrel;have h1:=HG.out;by_cases hlt:kk<nn
 ·have bd:(kk:Int)<(nn:Int):=by omega
  have ct:QP C ((kk:Int)+1)=(kk:Int)+1:=iw;have aK:=qR lq ai h1.only (fun ad e=>by injection e with e;subst e;simp only;omega);have aq:=qR zD ao h1.only (fun ad e=>by injection e with e;subst e;simp only;omega);obtain⟨g2,o2,a,aO,bQ,b3,_,_⟩:=lI aq (k:=kk) (by simp[sj];omega);injection aO with aO
  injection aO with e1 e2
  subst e1 e2;obtain⟨cf,bN,bO⟩:=AJ a (Q9 bQ);obtain⟨av,rfl⟩:=Rl bN;have bY:(kk:Int)<4:=by omega
  rw[Rk] at b3;have bR:(av:Int)<=2:=bO;have b4:(wr.alloc (F #[V { data:=#[120] },V { data:=#[121] }] 9)).cell? ⟨gn+1,kk,D⟩=Z (J C (av:Int)):=zk b3 _;go_upto_region 9 with(fail);have bu:=yd (W:=wr) (e:=9) (cs:=#[V { data:=#[120] },V { data:=#[121] }]) (n:=2) (g:=wr.heap.size) [{ data:=#[120] },{ data:=#[121] }] rfl rfl rfl (by decide) (by decide);have a0:=Ak (lo:=0) (m:=av) rfl bu (by simp;omega);rw[RZ,RK,Nat.sub_zero] at a0;have h2:=h1.fx (show ft wr (wr.alloc (F #[V { data:=#[120] },V { data:=#[121] }] 9)) from gG);have a5:(wr.alloc (F #[V { data:=#[120] },V { data:=#[121] }] 9)).heap.size=wr.heap.size+1:=Rf _ _;generalize (wr.alloc _)=QJ at a0 h2 a5 |-;obtain⟨gx,bT⟩:∃ g,wr.heap.size=g:=⟨_,rfl⟩
  rw[bT] at a0 a5 |-;obtain⟨a1,a6,bz⟩:∃ a1:Q N,a1.length=av/\a1=List.take av [{ data:=#[120] },{ data:=#[121] }]:=⟨_,by simp;omega,rfl⟩
  rw[<-bz] at a0;clear bu b3 b4 aK aq;have bt:(nn:Int)<=4:=by omega
  have bW:0<=(kk:Int)+1:=by omega
  have bX:(kk:Int)+1<=(nn:Int):=by omega
  have am:(QJ.alloc (F #[] 9)).heap[gx+1]?=Z (F #[] 9 (0,0)):=by have h:=QO QJ (F #[] 9);rw[a5] at h;exact h
  have bD:((QJ.alloc (F #[V { data:=#[105] },V { data:=#[122] }] 9)).alloc (F #[] 9)).heap[gx+2]?=Z (F #[] 9 (0,0)):=by have h:=QO (QJ.alloc (F #[V { data:=#[105] },V { data:=#[122] }] 9)) (F #[] 9);rw[Rf,a5] at h;exact h
  have bL:=yd (W:=QJ.alloc (F #[] 9)) (e:=9) (cs:=#[V { data:=#[105] },V { data:=#[122] }]) (n:=2) (g:=gx+2) [{ data:=#[105] },{ data:=#[122] }] rfl rfl (by rw[Rf,a5]) (by decide) (by decide);have bM:=yd (W:=QJ) (e:=9) (cs:=#[V { data:=#[105] },V { data:=#[122] }]) (n:=2) (g:=gx+1) [{ data:=#[105] },{ data:=#[122] }] rfl rfl (by rw[a5]) (by decide) (by decide);have aY:=Ty.up _ bM (show ft _ ((QJ.alloc (F #[V { data:=#[105] },V { data:=#[122] }] 9)).alloc (F #[] 9)) from gG);obtain⟨Q1,aA⟩:∃ QI:X Ri,(if kk=3 then Z ⟨gn,0,D⟩ else Z ⟨gn,kk+1,D⟩)=QI:=⟨_,rfl⟩
  obtain⟨Q2,aB⟩:∃ QI:X Ri,(if kk=3 then Z ⟨gn+1,0,D⟩ else Z ⟨gn+1,kk+1,D⟩)=QI:=⟨_,rfl⟩
  go_cut [9] from 27 to 45 (fun v wx=>∃(W8:U) (gb:Nat) (A8:X Ri) (c8:Nat) (S8:Q Nat),v=.pointer (Z ⟨gb,0,D⟩)/\gb=W8.heap.size/\ft QJ W8/\Has (iH.sl 9) W8 [G A8 (av+2) c8] (a1++[{ data:=#[105] },{ data:=#[122] }]) S8/\(∀ b∈S8,QJ.heap.size<=b)/\ft (W8.alloc (F #[.pointer (Z ⟨k,0,D⟩),G A8 (av+2) c8,G Q1 (nn-(kk+1)) (3-kk),G Q2 (nn-(kk+1)) (3-kk)] 219)) wx)
  case first=>
   go_region_law (first
    | (refine zK (L:=av) rfl (.tmp 28) (.tmp 29) sV lq (S:=[gx+2]) (Has.emp iH (zj bD gF)) (Ty.up _ a0 gF) rfl rfl rfl (Rk _).symm (by omega) (by omega) ?_;intro A7 c7 W7 S7 a2 ab a9;have aF:ft QJ W7:=a2.fx gF (fun b hb=>by simp only[QN] at hb;omega);have bb:=sB lq (Ty.up _ aY (ft.drew (ft.refl _))) a2 (fun ad e=>by injection e with e;subst e;simp))
    | (refine zK (L:=av) rfl (.tmp 28) (.tmp 29) sV lq (S:=[gx+1]) (Has.emp iH (zj am gF)) (Ty.up _ a0 gF) rfl rfl rfl (Rk _).symm (by omega) (by omega) ?_;intro A7 c7 W7 S7 a2 ab a9;have aF:ft QJ W7:=a2.fx gF (fun b hb=>by simp only[QN] at hb;omega);have bb:=sB lq (Ty.up _ bL (ft.drew (ft.refl _))) a2 (fun ad e=>by injection e with e;subst e;simp))
    | (refine zK (L:=av) rfl (.tmp 28) (.tmp 29) sV lq (S:=[gx+1]) (Has.emp iH (zj am gF)) (Ty.up _ a0 gF) rfl rfl rfl (Rk _).symm (by omega) (by omega) ?_;intro A7 c7 W7 S7 a2 ab a9;have aF:ft QJ W7:=a2.fx gF (fun b hb=>by simp only[QN] at hb;omega);have bb:=yd (W:=W7) (e:=9) (cs:=#[V { data:=#[105] },V { data:=#[122] }]) (n:=2) (g:=W7.heap.size) [{ data:=#[105] },{ data:=#[122] }] rfl rfl rfl (by decide) (by decide))
    | (refine zK (L:=av+2) rfl (.tmp 30) (.tmp 31) sV lq (ab.fx gF) (Ty.up _ bb gF) rfl rfl rfl rfl (by omega) (by omega) ?_;intro A8 c8 W8 S8 af an aE;have aG:ft QJ W8:=af.fx (aF.trans gF) (fun b hb=>by rcases a9 b hb with h | h <;> simp at h <;> omega)))
   all_goals (try rw[aA])
   all_goals (try rw[aB])
   all_goals (try simp only[aA,aB])
   all_goals go_wp2_with(fail)
   all_goals go_meet
   all_goals exact⟨W8,_,A8,c8,S8,rfl,rfl,aG,an,(fun b hb=>(aE b hb).elim (fun h=>by rcases a9 b h with h | h <;> simp at h <;> omega) (fun h=>by have:=aF.size;(try simp at h);omega)),gF⟩
  obtain⟨W8,gb,A8,c8,S8,rfl,bo,aG,an,aE,aI⟩:=hcut;have b6:ft QJ wc:=(aG.trans (show ft W8 (W8.alloc (F #[.pointer (Z ⟨k,0,D⟩),G A8 (av+2) c8,G Q1 (nn-(kk+1)) (3-kk),G Q2 (nn-(kk+1)) (3-kk)] 219)) from gG)).trans aI;have h3:=h2.fx b6;have b2:wc.heap[gb]?=Z (F #[.pointer (Z ⟨k,0,D⟩),G A8 (av+2) c8,G Q1 (nn-(kk+1)) (3-kk),G Q2 (nn-(kk+1)) (3-kk)] 219 (0,0)):=by rw[bo];exact zj (QO W8 _) aI
  have b7:gb<wc.heap.size:=(blt b2)
  have co:=aG.size;have cp:=h1.only.size;have a3:=OA an;have aa:=an.lt
  have ac:∀ ad,Q1=Z ad->ad.block=gn:=by
   rintro ad e;rw[<-aA] at e;split at e <;> (injection e with e;subst e;rfl)
  have ae:∀ ad,Q2=Z ad->ad.block=gn+1:=by
   rintro ad e;rw[<-aB] at e;split at e <;> (injection e with e;subst e;rfl)
  have aK:=qR lq ai h3.only (fun ad e=>by injection e with e;subst e;simp only;omega);have aq:=qR zD ao h3.only (fun ad e=>by injection e with e;subst e;simp only;omega);have be:=Hj (kk:=kk) (nn:=nn) rfl aK rfl (by omega) a8;have b1:=Hj (kk:=kk) (nn:=nn) rfl aq rfl (by omega) a8;rw[aA] at be;rw[aB] at b1
  have bl:jD wc k gb A8 c8 (a1++[{ data:=#[105] },{ data:=#[122] }]) Q1 (3-kk) ((tD.drop (kk+1)).take (nn-(kk+1))) Q2 (3-kk) ((sj.drop (kk+1)).take (nn-(kk+1))):=
   jD.mk' b2 (by simp[a6]) (Ha rfl (by omega) a8).symm (Ha rfl (by omega) a8).symm (an.fx ((show ft W8 (W8.alloc _) from gG).trans aI)).read be b1 (fun ad e=>by have:=aE _ (a3 ad e);omega) (fun ad e=>by rw[ac ad e];omega) (fun ad e=>by rw[ae ad e];omega)
    (fun a ha=>(AJ a (List.mem_of_mem_drop (List.mem_of_mem_take ha))).2) rfl (by omega) (by omega) (by omega) (by omega)
  have ap:∀ b∈S,b<QJ.heap.size:=h2.has.lt;have a7:=h2.lo
  have ak:iQ w Y wc k gb A8 c8 (a1++[{ data:=#[105] },{ data:=#[122] }]) Q1 (3-kk) ((tD.drop (kk+1)).take (nn-(kk+1))) Q2 (3-kk) ((sj.drop (kk+1)).take (nn-(kk+1))) A6 n6 c6 out S wc.heap.size:=
   ⟨h3,bl,Q8 _,b7,fun ad e=>by have h1:=aa _ (a3 ad e);omega,fun ad e=>by rw[ac ad e];omega,fun ad e=>by rw[ae ad e];omega,fun hm=>by have:=ap _ hm;omega,fun ad e hm=>by have h1:=ap _ hm;have h2:=aE _ (a3 ad e);omega,fun ad e hm=>by rw[ac ad e] at hm;have:=a7 _ hm;omega,fun ad e hm=>by rw[ae ad e] at hm;have:=a7 _ hm;omega⟩
  have a0:=Ty.up _ a0 b6;have bU:gx∉S:=fun hm=>by have:=h1.has.lt gx hm;omega
  have b9:gx≠gb:=by omega
  have ba:gx≠k:=by have:=h1.cur.lt;omega
  have bS:QJ.heap.size<=gb:=by omega
  have aP:∀ ad,A8=Z ad->ad.block≠gb:=fun ad e=>by have:=aa _ (a3 ad e);omega
  clear bo;have bp:0<=(kk:Int):=by omega
  have bq:(kk:Int)<=(nn:Int):=by omega
  obtain⟨m,hm⟩:∃ m,wc.heap.size=m:=⟨_,rfl⟩
  rw[hm] at ak;clear hm;go_upto_region 10 with(fail);go_cut [50] from 45 to 65 (fun v wx=>∃ b:Bool,v=H b/\Hid (iQ w Y wx k gb A8 c8 (a1++[{ data:=#[105] },{ data:=#[122] }]) Q1 (3-kk) ((tD.drop (kk+1)).take (nn-(kk+1))) Q2 (3-kk) ((sj.drop (kk+1)).take (nn-(kk+1))) A6 n6 c6 out S m)/\(iH.sl 9).R wx wx.heap.size [G (Z ⟨gx,0,D⟩) av 2] a1)
  case first=>
   by_cases hk0:0<kk
   ·have bc:(0:Int)<(kk:Int):=by omega
    go_wp2_with(go_at_call 103;(with_reducible refine(zgV h3.cur 5 (by decide) (by decide)).mono ?_);rintro e W5 ⟨b,rfl,bB,bk⟩);go_meet;exact⟨b,rfl,fh (ak.call bk bB),qR lq a0 bk (fun ad e=>by injection e with e;subst e;exact ba)⟩
   ·have bc:¬ ((0:Int)<(kk:Int)):=by omega
    go_wp2_with(fail);go_meet;exact⟨I,rfl,fh ak,a0⟩
  obtain⟨b,rfl,aL,aZ⟩:=hcut;clear a0 ak h3 bl aK aq be b1 b2 b6 aI h2;have ah:=aL.out;go_upto_if 50 with(fail)
  go_cut [] from 45 to 65 (fun wx=>∃(A1:X Ri) (c1:Nat) (names:Q N) (A2:X Ri) (c2:Nat) (aM:Q Int),Hid (iQ w Y wx k gb A8 c8 (a1++[{ data:=#[105] },{ data:=#[122] }]) A1 c1 names A2 c2 aM A6 n6 c6 out S m)/\(iH.sl 9).R wx wx.heap.size [G (Z ⟨gx,0,D⟩) av 2] a1)
  case first=>
   cases b with
   | false=>
    go_wp2_with(fail);go_meet;exact⟨_,_,_,_,_,_,aL,aZ⟩
   | true=>
    obtain⟨p0,p1,p2,p3,pf,pl⟩:=iJ ah.bx.iU;have c3:=qR lq ai ah.st.only (fun ad e=>by injection e with e;subst e;simp only;omega);have b0:=qR zD ao ah.st.only (fun ad e=>by injection e with e;subst e;simp only;omega);have ax:=Ak (lo:=kk) (m:=nn-kk) rfl c3 (by simp[tD];omega);have ar:=Ak (lo:=kk) (m:=nn-kk) rfl b0 (by simp[sj];omega);rw[Rk] at ax ar;have bK:gn∉S:=fun hm=>by have:=a7 _ hm;omega
    have bJ:gn+1∉S:=fun hm=>by have:=a7 _ hm;omega
    have ci:=ah.lb;have bF:=ah.set (d1:=4-kk) (d2:=4-kk) ax ar (by simp[tD];omega) (by simp[sj];omega) (fun ad e=>by injection e with e;subst e;exact⟨by simp only;omega,by simp only;omega,bK,by simp only;omega⟩) (fun ad e=>by injection e with e;subst e;exact⟨by simp only;omega,by simp only;omega,bJ,by simp only;omega⟩) rfl (fun a ha=>(AJ a (List.mem_of_mem_drop (List.mem_of_mem_take ha))).2) (by omega) aP (by omega);have bP:=sB lq aZ (show fw [gb] wc ((wc.setCell ⟨gb,2,D⟩ (G (Z ⟨gn,kk,D⟩) (nn-kk) (4-kk))).setCell ⟨gb,3,D⟩ (G (Z ⟨gn+1,kk,D⟩) (nn-kk) (4-kk))) from((fw.refl [gb] wc).setCell (by simp) _).setCell (by simp) _) (fun ad e=>by injection e with e;subst e;simpa using b9);go_wp2_with(fail);go_meet;exact⟨_,_,_,_,_,_,fh bF,bP⟩
  obtain⟨A1,c1,names,A2,c2,aM,HR,a0⟩:=hcut;clear aL ah aZ;have hR:=HR.out;have br:=qR lq ai hR.st.only (fun ad e=>by injection e with e;subst e;simp only;omega);obtain⟨g1,o1,nm,aN,cn,al,bf⟩:=vP br (k:=kk) (by simp[tD];omega);injection aN with aN
  injection aN with e1 e2
  subst e1 e2;rw[Rk] at al;have b8:=RE _ _ al;simp only at b8;have b5:(wc.alloc (F #[] 9)).cell? ⟨gn,kk,D⟩=Z (V nm):=zk al _;have am:=QO wc (F #[] 9);go_upto_region 13 with(fail);go_cut [6] from 65 to 76 (fun v wx=>∃(A7:X Ri) (c7:Nat) (y:fv) (S7:Q Nat),v=G A7 (n6+1) c7/\su y/\Hid (iQ w Y wx k gb A8 c8 (a1++[{ data:=#[105] },{ data:=#[122] }]) A1 c1 names A2 c2 aM A7 (n6+1) c7 (out++[y]) S7 m))
  case first=>
   go_region_law (first
    | (refine zK (L:=av) rfl (.tmp 70) (.tmp 71) sV lq (S:=[wc.heap.size]) (Has.emp iH (zj am gF)) (Ty.up _ a0 gF) rfl rfl rfl (Rk _).symm (by omega) (by omega) ?_;intro A9 c9 W9 S9 ag aR aX;have bn:ft wc W9:=ag.fx gF (fun b hb=>by simp only[QN] at hb;omega);have al:=za bn al;have bi:=hR.fx bn;have aw:∀ b∈S9++[],wc.heap.size<=b:=(fun b hb=>by rw[SC] at hb;rcases aX b hb with h | h <;> simp at h <;> omega);have aS:Has (iH.sl 9) W9 [G A9 a1.length c9] a1 S9:=(by rw[a6];simpa using aR);have cc:=CH (x:=⟨0,nm,a1,[]⟩) (show fD 0 from⟨by decide,by decide⟩) bf aS (Has.nil iZ 160 W9) (fun b _ hb=>by cases hb))
    | (refine wo (L:=n6+1) rfl (.tmp 65) (.tmp 74) mT (bi.st.has.fx gF) (cc.fx gF) (fun b hb hm=>by have k1:=aw b hm;have k2:=hR.st.has.lt b hb;omega) rfl rfl rfl (by intro j u hu;simpa[go_sem,a6] using hu) rfl (by omega) (by omega) ?_;intro A7 c7 W7 S7 a2 ab a9;have aC:=(bi.fx gF).next a2 ab a9 (fun b hb=>by have k1:=aw b hb;have k2:=hR.le;have k3:=hR.st.only.size;omega) (by rw[QR,<-hR.st.len];rfl)))
   all_goals go_wp2_with(fail)
   all_goals go_meet
   all_goals exact⟨A7,c7,_,S7,rfl,⟨by simp,by simp only;omega⟩,fh (aC.fx gF)⟩
  obtain⟨A7,c7,y,S7,rfl,cd,bw⟩:=hcut;clear hR HR a0 al b5 am br;have aC:=bw.out
  go_upto_region 15 with(first
   | (go_at_call 36;(with_reducible refine(nO aC.st.cur 4 (by decide) (by decide)).mono ?_);rintro e V1 ⟨u1,rfl,cq,az,aD⟩;have bj:=aC.call aD az;have c5:QP C (1+(u1:Int))=1+u1:=iw)
   | (go_at_call 36;(with_reducible refine(nO bj.st.cur 2 (by decide) (by decide)).mono ?_);rintro e V2 ⟨u2,rfl,cr,bA,bH⟩;have aj:=bj.call bH bA;have ca:QP C (1+(u2:Int))=1+u2:=iw)
   | (go_at_call 156;(with_reducible refine(zql (1+u2) (by omega) (1+u1) (by omega) _ (by omega) _ (by omega) aj.st.cur aj.bx).mono ?_);rintro e V3 ⟨B3,n3,d3,o3,T3,rfl,cl,bm,h3⟩;have aT:=aj.call h3.only h3.cur;have cg:(1+u1)*cb (1+u2)<=4*25:=UD (by omega) (Bh (by omega)))
   | (refine yD (L:=n6+1+n3) rfl (.tmp 76) (.tmp 84) mT aT.st.has h3.has (fun b hb hm=>by have k1:=h3.lo b hm;have k2:=aj.st.has.lt b hb;omega) rfl rfl rfl rfl (by omega) (by omega) ?_;intro B8 d8 V8 ce af aQ aW;have ak:=aT.next af aQ aW (fun b hb=>by have k1:=h3.lo b hb;have k2:=aj.le;have k3:=aj.st.only.size;omega) (by rw[QR,<-aT.st.len,<-h3.len])))
  have a4:=ak
  go_upto_region 16 with(first
   | (go_at_call 157;(with_reducible refine(zd5 (n:=3) (m:=3) (by decide) (by decide) a4.st.cur a4.bx).mono ?_);rintro e W6 ⟨B6,d6,o6,S6,rfl,bZ,bC,bI,bE,au⟩;have aU:=a4.call bI bC)
   | (refine zC (L:=n6+1+n3+1) rfl (.tmp 86) (.tmp 90) mT (aU.fx gF).st.has ((sQ (kd:=6) (nm:={ data:=#[] }) ⟨by decide,by decide⟩ (by decide) bE).fx gF) (fun b hb hm=>by have k1:=au b hm;have k2:=a4.st.has.lt b hb;omega) rfl rfl rfl (by intro j u hu;simpa[go_sem] using hu) rfl (by omega) (by omega) ?_;intro B9 d9 V9 T9 ag aR aX;have aV:=(aU.fx gF).next ag aR aX (fun b hb=>by have k1:=au b hb;have k2:=a4.le;have k3:=a4.st.only.size;omega) (by rw[QR,<-aU.st.len];rfl)))
  go_wp2_with(first
   | (refine zC (L:=n6+1+n3+1+1) rfl (.tmp 92) (.tmp 94) mT (Sy:=[]) (aV.fx gF).st.has (xT (kd:=7) ⟨by decide,by decide⟩) (fun b hb hm=>by cases hm) rfl rfl rfl (by intro j u hu;simpa[go_sem] using hu) rfl (by omega) (by omega) ?_;intro B7 d7 V7 T7 a2 ab a9;have bG:=(aV.fx gF).next a2 ab a9 (fun b hb=>by cases hb) (by rw[QR,<-aV.st.len];rfl)))
  go_roundw
  case measure=>exact gH
  case rel=>
   refine⟨kk+1,_,B7,d7,_,T7,rfl,by go_num,by omega,by omega,?_,fh ?_,fh bG.st⟩
   ·have h1:oW [y]<=1:=Uq _ _
    rw[Aw,Aw,Aw,Aw,MU bm];have h2:oW [(⟨6,{ data:=#[] },[],o6⟩:fv)]=0:=rfl;have h3:oW [(⟨7,{ data:=#[] },[],[]⟩:fv)]=0:=rfl;omega
   ·exact CY (CY (Pd (CY HL.out cd) bm) ⟨by have:=bZ;simp only[nc] at this;simp at this |-;omega,by simp⟩) ⟨by simp,by simp⟩
 ·obtain rfl:kk=nn:=by omega
  have bd:¬ ((kk:Int)<(kk:Int)):=by omega
  go_wp2_with(fail);go_ret;have cj:=bg.out.size;have aJ:=bv.out;exact⟨A6,n6,c6,out,S,rfl,by omega,HL.out,by omega,⟨h1.cur,(bg.out.only [k]).trans h1.only,h1.has,fun b hb=>by have:=h1.lo b hb;omega,by omega,h1.len⟩⟩
end Go.Proofs.YthgbglbaemelhaaGreat
