/-
  PART.
-/
import Derived.Test.YtiihkapmggfjkaaGreatM18LawMakeDebug
set_option linter.unusedVariables false
set_option linter.unusedSimpArgs false
set_option maxRecDepth 100000
set_option maxHeartbeats 8000000
namespace Go.Proofs.YtiihkapmggfjkaaGreat
open Value renaming slice->J,int->F,bool->X
open IntKind renaming i64->I,wrap->Ll
open Option renaming none->V,some->H,map_some->Nk
open Obj renaming cells->C
open Bool renaming false->U,true->M
open Go renaming World->N,results->Ly,Value->LA,Calls->LR,Addr->Mh,yielded->NA
open World renaming cell?->Lg,frozen?->LD
open _root_.Int renaming toNat_natCast->Lw
open List renaming length_cons->LJ,nil_append->Mw,getElem?_cons_succ->MV,foldl_cons->NC,cons_append->OW
open Region renaming wanted->MI,ready->MK,noSelect->ND,free->Oq
open Tryz
open Go.RowKit
variable {Ac Ad Al Av:K Mh}{L:Q Nat}{P:ig}{W:N}{a i line:Int}{cc cd cl cv j nl nv:Nat}{chain:Q Int}{l:Q fS}{m:fW}{p:Q fG}{rows:Q (Q LA)}{s:fL}{st:Bool}{x:mV}
theorem l8 {g:Nat} {o0 o1 o2 o3 o4 o5:LA} {e:TypeId} (h:W.heap[g]?=H (C #[o0,o1,o2,o3,o4,o5] e (0,0))) :
  Lg W ⟨g,0,V⟩=H o0/\Lg W ⟨g,1,V⟩=H o1/\Lg W ⟨g,2,V⟩=H o2/\Lg W ⟨g,3,V⟩=H o3/\Lg W ⟨g,4,V⟩=H o4/\Lg W ⟨g,5,V⟩=H o5/\(∀ j,LD W ⟨g,j,V⟩=U)/\g<W.heap.size:=by
 refine⟨?_,?_,?_,?_,?_,?_,fun j=>by simp[LD,h],(blt h)⟩
 all_goals
  rw[MD W g _ _ _ (0,0) h]
  rfl
theorem mU {g:Prop} (f:g:=by
  obtain⟨L',h1,h2,h3⟩:=h
  exact⟨L',h1,(hg.only L).trans h2,fun b hb=>(h3 b hb).imp id (fun h=>LO hg.size h)⟩):g:=f
theorem gI.from {W1 W2:N} (hg:fF W W1)(h:gI P m rows W1 L W2):gI P m rows W L W2:=by
 exact mU
theorem sT {g:Prop} (f:g:=by
  obtain⟨L',h1,h2,h3⟩:=h
  obtain⟨g1,g2⟩:=h1.num (i:=i) (v:=v) hi hrow
  exact⟨L',g1,h2.then g2 h3,h3⟩):g:=f
theorem gI.num {m':fW} {W':N} (h:gI P m rows W L W'){i:Nat}{v:LA}(hi:m'.items=m.items)
  (hrow:∀ a b c d e f g x y,(#[a,b,c,d,e,f,g,F I m.gK,F I P.E.args,F I m.depth,x,y,X m.start]:Array LA).setIfInBounds i v=#[a,b,c,d,e,f,g,F I m'.gK,F I P.E.args,F I m'.depth,x,y,X m'.start]) :
  gI P m' rows W L (W'.setCell ⟨P.g,i,V⟩ v):=by
 exact sT
theorem gI.fO {P:ig}{m:fW}{rows:Q (Q LA)}{W W' W2:N}{L:Q Nat}(h:gI P m rows W L W')(hg:fF W' W2):gI P m rows W L W2:=by
 obtain⟨L',h1,h2,h3⟩:=h;exact⟨L',h1.fO hg,h2.trans (hg.only L),h3⟩
theorem Du {E:gd} {d:Int} (hi:0<=i/\i<=100)(hd : -1000000<=d/\d<=1000000)(hf : -1000<=s.first/\s.first<=1000)(ha:0<=E.args/\E.args<=100):fV (kQ E d s i st).1/\fV (kQ E d s i st).2:=by
 unfold kQ fV;simp only;refine⟨⟨?_,?_⟩,⟨?_,?_⟩⟩
 ·split <;> split <;> omega
 ·split <;> split <;> omega
 ·split <;> split <;> (try split) <;> omega
 ·split <;> split <;> (try split) <;> omega
theorem zpm {A0 A1 A2:K Mh} {n0 n1 n2 c0 c1 c2:Nat} (h:jk P m rows W L)(hi:0<=i/\i<=100)(hd : -1000000<=m.depth/\m.depth<=1000000)(hf : -1000<=s.first/\s.first<=1000)(ha:0<=P.E.args/\P.E.args<=100) :
  LR prog 258 #[.pointer (H ⟨P.g,0,V⟩),.agg #[F I s.f,J A0 n0 c0,J A1 n1 c1,F I s.first,X s.outer,J A2 n2 c2],F I i,X st] W fun r W'=>r=.returned (.tuple #[F I (kQ P.E m.depth s i st).1,F I (kQ P.E m.depth s i st).2])/\fF W W':=by
 obtain⟨Ai,ci,As,cs,z0,z1,z2,z5,z6,z7,z8,z9,a7,a8,a9,zf,zl⟩:=h.cells;unfold kQ;clear h;obtain⟨ou,a4⟩:∃ b,s.outer=b:=⟨_,rfl⟩
 obtain⟨fr,a3⟩:∃ b,P.E.gm=b:=⟨_,rfl⟩
 rw[a4];rw[a3] at z5 |-;clear a4 a3;obtain⟨d,a1⟩:∃ d,m.depth=d:=⟨_,rfl⟩
 rw[a1] at z9 hd |-;obtain⟨a,a0⟩:∃ d,P.E.args=d:=⟨_,rfl⟩
 rw[a0] at z8 ha |-;obtain⟨f,a2⟩:∃ d,s.first=d:=⟨_,rfl⟩
 rw[a2] at hf |-;clear a1 a0 a2;have w1:Ll I (a-i)=a-i:=iw;have w2:Ll I (i-a)=i-a:=iw;have w3:Ll I (f+i)=f+i:=iw;have w4:Ll I (d-1)=d-1:=iw;have w5:Ll I (d-1-(i-a))=d-1-(i-a):=iw;have w6:Ll I (d-1-(f+i))=d-1-(f+i):=iw;have w7:Ll I (d+(a-i))=d+(a-i):=iw;have w8:Ll I (-1-(i-a)) = -1-(i-a):=iw;have w9:Ll I (-1-(f+i)) = -1-(f+i):=iw;have a5:Ll I (1+(a-i))=1+(a-i):=iw;have a6:Ll I (d-1-0)=d-1-0:=iw;by_cases hia:i<a
 ·cases ou <;> cases fr <;> cases st
  all_goals
   go_enter func258,ntmps258
   go_wp2_with(fail)
   refine Ln ?_ rfl ⟨rfl,gG⟩
   simp[Ly,results258,go_sem,hia]
 ·cases ou <;> cases fr <;> cases st
  all_goals
   go_enter func258,ntmps258
   go_wp2_with(fail)
   refine Ln ?_ rfl ⟨rfl,gG⟩
   simp[Ly,results258,go_sem,hia]
theorem zs5 (h:jk P m rows W L)(hc:(zF.sl 3).R W W.heap.size [J Ac s.chain.length cc] s.chain)(hcl:s.chain.length<=1000)(hln:m.items.length<=100000)
  (hi:0<=i/\i<=100) (hd : -1000000<=m.depth/\m.depth<=1000000) (hf : -1000<=s.first/\s.first<=1000) (ha:0<=P.E.args/\P.E.args<=100) (hl:fV line) :
  LR prog 255 #[.pointer (H ⟨P.g,0,V⟩),.agg #[F I s.f,J Ac s.chain.length cc,J Al nl cl,F I s.first,X s.outer,J Av nv cv],F I i,F I line] W fun r W'=>r=.returned (.tuple #[])/\gI P (wS P.E m s i line) rows W L W':=by
 have hb:=Du (E:=P.E) (d:=m.depth) (s:=s) (i:=i) (st:=U) hi hd hf ha;have a2:fV m.depth:=⟨by omega,by omega⟩
 have hw:Ll I (m.depth+1)=m.depth+1:=iw;go_enter func255,ntmps255;go_wp2_with(first | (go_at_call 258;(with_reducible refine(zpm (st:=U) (h.fO gF) hi hd hf ha).mono ?_);rintro e w1 ⟨rfl,a1⟩;have a0:fF W w1:=fF.trans (b:=_) gF a1;obtain⟨b0,b1,b2,b3,b4,b5,_,_⟩:=l8 (zj (Lp W (C #[F I s.f,J Ac s.chain.length cc,J Al nl cl,F I s.first,X s.outer,J Av nv cv] 244)) (fF.trans (b:=_) gF a1))) | (go_at_call 221;(with_reducible refine(zek (h.fO a0) (Ty.up _ hc a0) hcl hln hb.1 hb.2 hl a2).mono ?_);rintro e w2 ⟨rfl,h2⟩;have H2:=fE (gI.from a0 h2);obtain⟨L2,h3,_⟩:=h2;obtain⟨_,_,_,_,_,_,_,_,_,_,_,y9,_,_,_,yf,yl⟩:=h3.cells;replace y9:Lg w2 ⟨P.g,9,V⟩=H (F I m.depth):=y9;clear h3));exact MF (v:=.tuple #[]) (by simp[Ly,results255,go_sem]) rfl ⟨rfl,H2.out.num rfl (fun _ _ _ _ _ _ _ _ _=>rfl)⟩
theorem zpn (h:jk P m rows W L)(hc:(zF.sl 3).R W W.heap.size [J Ad chain.length cd] chain)(hcl:chain.length<=1000)(hln:m.items.length<=100000)
  (hi:0<=i/\i<=100) (hd : -1000000<=m.depth/\m.depth<=1000000) (hf : -1000<=s.first/\s.first<=1000) (ha:0<=P.E.args/\P.E.args<=100) (hl:fV line) :
  LR prog 242 #[.pointer (H ⟨P.g,0,V⟩),.agg #[F I s.f,J Ac s.chain.length cc,J Al nl cl,F I s.first,X s.outer,J Av nv cv],F I i,F I line,J Ad chain.length cd] W fun r W'=>r=.returned (.tuple #[])/\gI P (jC P.E m s i line chain) rows W L W':=by
 have hb:=Du (E:=P.E) (d:=m.depth) (s:=s) (i:=i) (st:=M) hi hd hf ha;have a2:fV m.depth:=⟨by omega,by omega⟩
 have hw:Ll I (m.depth-1)=m.depth-1:=iw;go_enter func242,ntmps242;go_wp2_with(first | (go_at_call 258;(with_reducible refine(zpm (st:=M) (h.fO gF) hi hd hf ha).mono ?_);rintro e w1 ⟨rfl,a1⟩;have a0:fF W w1:=fF.trans (b:=_) gF a1;obtain⟨b0,b1,b2,b3,b4,b5,_,_⟩:=l8 (zj (Lp W (C #[F I s.f,J Ac s.chain.length cc,J Al nl cl,F I s.first,X s.outer,J Av nv cv] 244)) (fF.trans (b:=_) gF a1))) | (go_at_call 221;(with_reducible refine(zek (h.fO a0) (Ty.up _ hc a0) hcl hln hb.1 hb.2 hl a2).mono ?_);rintro e w2 ⟨rfl,h2⟩;have H2:=fE (gI.from a0 h2);obtain⟨L2,h3,_⟩:=h2;obtain⟨_,_,_,_,_,_,_,_,_,_,_,y9,_,_,_,yf,yl⟩:=h3.cells;replace y9:Lg w2 ⟨P.g,9,V⟩=H (F I m.depth):=y9;clear h3));exact MF (v:=.tuple #[]) (by simp[Ly,results242,go_sem]) rfl ⟨rfl,H2.out.num rfl (fun _ _ _ _ _ _ _ _ _=>rfl)⟩
theorem zkb {v:Int} (h:jk P m rows W L)(hc:(zF.sl 3).R W W.heap.size [J Ad chain.length cd] chain)(hcl:chain.length<=1000)(hln:m.items.length<=100000)
  (hv:fV v) (hd : -1000000<=m.depth/\m.depth<=1000000) (hl:fV line) :
  LR prog 239 #[.pointer (H ⟨P.g,0,V⟩),F I v,F I line,J Ad chain.length cd] W fun r W'=>r=.returned (.tuple #[])/\gI P (zZ P.E m v line chain) rows W L W':=by
 have a1:fV m.depth:=⟨by omega,by omega⟩
 have hw:Ll I (m.depth+1)=m.depth+1:=iw;have a0:fV 0:=⟨by omega,by omega⟩
 go_enter func239,ntmps239;go_wp2_with(first | (go_at_call 221;(with_reducible refine(zek h hc hcl hln a0 hv hl a1).mono ?_);rintro e w2 ⟨rfl,h2⟩;have H2:=fE h2;obtain⟨L2,h3,_⟩:=h2;obtain⟨_,_,_,_,_,_,_,_,_,_,_,y9,_,_,_,yf,yl⟩:=h3.cells;replace y9:Lg w2 ⟨P.g,9,V⟩=H (F I m.depth):=y9;clear h3));exact MF (v:=.tuple #[]) (by simp[Ly,results239,go_sem]) rfl ⟨rfl,H2.out.num rfl (fun _ _ _ _ _ _ _ _ _=>rfl)⟩
def jt (l l':Q fS):Prop:=∀ x,l[0]?=H x->∃ y,l'[0]?=H y/\y.fN=x.fN
theorem jt.refl (l:Q fS):jt l l:=fun x h=>⟨x,h,rfl⟩
theorem jt.trans {a b c:Q fS}(h:jt a b)(k:jt b c):jt a c:=fun x hx=>by
 obtain⟨y,h1,h2⟩:=h x hx;obtain⟨z,h3,h4⟩:=k y h1;exact⟨z,h3,h4.trans h2⟩
theorem jt.app (l r:Q fS):jt l (l++r):=fun x h=>⟨x,by rw[Md (Lh.1 h).1];exact h,rfl⟩
theorem jt.set (l:Q fS)(j:Nat)(v:Int):jt l (zL l j v):=fun x h=>by
 unfold zL;cases hy:l[j]? with
 | none=>exact⟨x,h,rfl⟩
 | some y=>
  simp only;by_cases hj:j=0
  ·subst hj
   rw[h] at hy;injection hy with hy
   subst hy;exact⟨{ x with Op:=⟨x.Op.Code,v⟩ },by rw[MP (Lh.1 h).1],rfl⟩
  ·exact⟨x,by rw[M5 hj];exact h,rfl⟩
theorem BJ:∀(js:Q Int)(l:Q fS)(v:Int),jt l (km l js v)
 | [],l,v=>.refl l
 | j::js,l,v=>(jt.set l j.toNat v).trans (BJ js _ v)
theorem vV:∀(es:Q (Int × Int))(l:Q fS)(tgt v:Int),jt l (kV l es tgt v)
 | [],l,tgt,v=>.refl l
 | e::es,l,tgt,v=>by
  unfold kV;simp only[NC];split
  ·exact(jt.set l e.2.toNat v).trans (vV es _ tgt v)
  ·exact vV es l tgt v
theorem xX (a:Int):∀(n k:Nat),(nK a n k).length=n
 | 0,_=>rfl
 | n+1,k=>by simp[nK,xX a n]
theorem Hi (h:jX x=M):(jE x).size=(jw x.Code).1+1:=by
 unfold jE;rw[Lu h];show ((nR x.Code::nK x.Arg (jw x.Code).1 0).toArray).size=_;simp[xX]
theorem Hx (h:jX x=M):0<=x.Code/\x.Code<=17:=by
 unfold jX at h;rw[LC] at h;exact zX.1 h.1
theorem FM (h:jX x=M):((jE x).size:Int)=zA x.Code:=by
 have hc:=Hx h;rw[Hi h];unfold zA;rw[Lu (zX.2 hc)];omega
def lh:Q mV->D
 | []=>emp
 | x::r=>jE x++lh r
theorem Jg (b:D):emp++b=b:=ByteArray.ext (by rw[ByteArray.data_append];simp[emp])
theorem Am (b:D):b++emp=b:=ByteArray.ext (by rw[ByteArray.data_append];simp[emp])
theorem CO:∀(l r:Q mV),lh (l++r)=lh l++lh r
 | [],r=>by simp only[Mw,lh,Jg]
 | x::l,r=>by simp only[OW,lh,CO l r,N5]
theorem tR (st:Q Int):∀(l:Q fS)(k j:Nat),(nJ st l k)[j]?=(l[j]?).map (lf st (k+j))
 | [],_,_=>rfl
 | x::r,k,0=>rfl
 | x::r,k,j+1=>by
  simp only[nJ,MV];rw[tR st r (k+1) j,show k+1+j=k+(j+1) from by omega]
theorem xE (st:Q Int):∀(l:Q fS)(k:Nat),(nJ st l k).length=l.length
 | [],_=>rfl
 | x::r,k=>by simp[nJ,xE st r]
theorem yv (c:Int):0<=zA c/\zA c<=5:=by
 unfold zA;split
 ·have:=tH c
  omega
 ·omega
theorem C9:∀(l:Q fS)(a:Int)(j:Nat),j<=l.length->∃ v,(jR l a)[j]?=H v/\a<=v/\v<=a+5*(j:Int)
 | [],a,j,h=>by
  have:j=0:=by simpa using h
  subst this;exact⟨a,rfl,by omega,by omega⟩
 | x::r,a,0,_=>⟨a,rfl,by omega,by omega⟩
 | x::r,a,j+1,h=>by
  obtain⟨v,h1,h2,h3⟩:=C9 r (a+zA x.Op.Code) j (by simpa using h);have:=yv x.Op.Code;exact⟨v,by simp only[jR,MV];exact h1,by omega,by omega⟩
theorem Aa (h:j<=l.length):a<=(jR l a).getD j 0/\(jR l a).getD j 0<=a+5*(j:Int):=by
 obtain⟨v,h1,h2,h3⟩:=C9 l a j h;rw[Mp,h1];exact⟨h2,h3⟩
theorem JS (h:iJ p l)(hl:l.length<=6000){j:Nat}{x:fQ}(hx:(jD l a)[j]?=H x):jX x.Item.Op=M/\∃ y,l[j]?=H y/\x.Item.Op.Code=y.Op.Code/\x.Item.fN=y.fN:=by
 unfold jD at hx;rw[tR,Mb] at hx;cases hy:l[j]? with
 | none=>rw[hy] at hx;cases hx
 | some y=>
  rw[hy] at hx;simp only[Nk,Mg] at hx;subst hx;have a1:=(Lh.1 hy).1;have hi:=h j y hy;have hc:=hi.code;unfold lf;by_cases hjmp:y.Op.Code=10∨y.Op.Code=11
  ·rw[Lu hjmp]
   simp only;refine⟨?_,y,rfl,rfl,rfl⟩;have hj:=hi.jump hjmp;have h1:=Aa (l:=l) (a:=a) (j:=y.Op.Arg.toNat) (by omega);have h2:=Aa (l:=l) (a:=a) (j:=j+1) (by omega)
   have hw:jw y.Op.Code=(2,M):=by
    unfold jw;rw[Lt (by omega),Lu (by omega)]
   unfold jX;simp only[hw,Nx,LC];exact⟨zX.2 hc,zX.2 ⟨by show (-32768:Int)<=_;omega,by show _<=(32767:Int);omega⟩⟩
  ·rw[Lt hjmp]
   refine⟨?_,y,rfl,rfl,rfl⟩;unfold jX;rw[LC];refine⟨zX.2 hc,?_⟩;have a0:y.Op.Code=0∨(1<=y.Op.Code/\y.Op.Code<=4)∨((5<=y.Op.Code/\y.Op.Code<=9)∨y.Op.Code=17)∨(12<=y.Op.Code/\y.Op.Code<=15)∨y.Op.Code=16:=by omega
   rcases a0 with c | c | c | c | c
   ·have:=hi.lit c
    have hw:jw y.Op.Code=(4,M):=by unfold jw;rw[Lu c]
    rw[hw];exact zX.2 ⟨by simp;omega,by simp;omega⟩
   ·have:=hi.var c.1 c.2
    have hw:jw y.Op.Code=(2,M):=by unfold jw;rw[Lt (by omega),Lu (by omega)]
    rw[hw];exact zX.2 ⟨by simp;omega,by simp;omega⟩
   ·have:=hi.op c
    have hw:jw y.Op.Code=(0,U):=by unfold jw;rw[Lt (by omega),Lt (by omega),Lt (by omega),Lt (by omega)]
    rw[hw,this];rfl
   ·have:=hi.small c.1 c.2
    have hw:jw y.Op.Code=(1,U):=by unfold jw;rw[Lt (by omega),Lt (by omega),Lt (by omega),Lu (by omega)]
    rw[hw];exact zX.2 ⟨by simp;omega,by simp;omega⟩
   ·have:=hi.ret c
    have hw:jw y.Op.Code=(2,U):=by unfold jw;rw[Lt (by omega),Lt (by omega),Lu c]
    rw[hw];exact zX.2 ⟨by simp;omega,by simp;omega⟩
def oO (p:Q fG)(x:fQ):Prop:=x.Item.Op.Code=13∨x.Item.Op.Code=15/\zG p x.Item.fN=0
theorem Bt (l:Q gk)(x:gk)(n:Int):qt (l++[x]) n=l++[{ x with il:=n-x.Start }]:=by
 unfold qt;simp
def l7 (l:Q fQ):Q mV:=l.map fun x=>x.Item.Op
theorem DX (p:Q fG):∀(l:Q fQ)(c:D)(ss:Q gk)(nm:D)(st:Int),(∀ x∈l,¬ oO p x)->
  l.foldl (ov p) ⟨c,ss++[⟨nm,st,c.size-st⟩]⟩=⟨c++lh (l7 l),ss++[⟨nm,st,(c++lh (l7 l)).size-st⟩]⟩
 | [],c,ss,nm,st,_=>by simp[l7,lh,Am]
 | x::r,c,ss,nm,st,h=>by
  have hx:=h x (.head _);unfold oO at hx;rw[NC]
  have:ov p ⟨c,ss++[⟨nm,st,c.size-st⟩]⟩ x=⟨c++jE x.Item.Op,ss++[⟨nm,st,(c++jE x.Item.Op).size-st⟩]⟩:=by
   unfold ov;simp only[Lt hx,Bt]
  rw[this,DX p r _ ss nm st (fun y hy=>h y (.tail _ hy))];simp only[l7,NI,lh,N5]
theorem Kn (p:Q fG)(x:fQ)(r:Q fQ)(c:D)(ss:Q gk)(hx:oO p x)(ho:x.Offset=(c.size:Int))(h:∀ y∈r,¬ oO p y) :
  (x::r).foldl (ov p) ⟨c,ss⟩=⟨c++lh (l7 (x::r)),ss++[⟨rj p x.Item.fN,c.size,(lh (l7 (x::r))).size⟩]⟩:=by
 rw[NC];unfold oO at hx
 have:ov p ⟨c,ss⟩ x=⟨c++jE x.Item.Op,ss++[⟨rj p x.Item.fN,c.size,(c++jE x.Item.Op).size-c.size⟩]⟩:=by
  unfold ov;simp only[Lu hx,Bt,ho]
 rw[this,DX p r _ ss _ _ h];simp only[l7,NI,lh,N5,Na];congr 3;congr 1;omega
theorem Cg:∀(l:Q fS)(a:Int),0<=kF l a-a/\kF l a-a<=5*(l.length:Int)
 | [],a=>by simp[kF]
 | x::r,a=>by
  have h:=Cg r (a+zA x.Op.Code);have h2:=yv x.Op.Code;simp only[kF,LJ];omega
theorem Cf:∀(l:Q mV),(∀ x∈l,jX x=M)->((lh l).size:Int)=(l.map fun x=>zA x.Code).sum
 | [],_=>rfl
 | x::r,h=>by
  simp only[lh,Na,NI,List.sum_cons,Int.natCast_add];rw[FM (h x (.head _)),Cf r (fun y hy=>h y (.tail _ hy))]
theorem DK:∀(l:Q fS)(a:Int),kF l a=a+(l.map fun x=>zA x.Op.Code).sum
 | [],a=>by simp[kF]
 | x::r,a=>by
  simp only[kF,NI,List.sum_cons,DK r];omega
theorem Gx (l:Q fS)(a:Int):(l7 (jD l a)).map (fun x=>zA x.Code)=l.map fun x=>zA x.Op.Code:=by
 apply Nr;intro j;unfold l7 jD;simp only[NX,tR,Option.map_map];cases l[j]? with
 | none=>rfl
 | some x=>
  simp only[Nk,Function.comp];unfold lf;split <;> rfl
theorem ya {x:fQ} (h:(jD l a)[j]?=H x):∃ y,l[j]?=H y/\x=lf (jR l a) j y:=by
 unfold jD at h;rw[tR,Mb] at h;cases hy:l[j]? with
 | none=>rw[hy] at h;cases h
 | some y=>
  rw[hy] at h;simp only[Nk,Mg] at h;exact⟨y,rfl,h.symm⟩
theorem ti (st:Q Int)(j:Nat)(y:fS):(lf st j y).Item.fN=y.fN/\(lf st j y).Item.Op.Code=y.Op.Code:=by
 unfold lf;split <;> exact⟨rfl,rfl⟩
theorem wo:∀(l:Q fG)(i:Nat),∀ x∈iS l i,(i:Int)<=x
 | [],_,x,h=>by cases h
 | y::r,i,x,h=>by
  unfold iS at h;split at h
  ·rcases LU.1 h with rfl | h
   ·exact N2 _
   ·have:=wo r (i+1) x h;omega
  ·have:=wo r (i+1) x h;omega
theorem yU:∀(l:Q fG)(i:Nat),(iS l i).Pairwise (· < ·)
 | [],_=>.nil
 | y::r,i=>by
  unfold iS;split
  ·refine List.pairwise_cons.2 ⟨fun x hx=>?_,yU r (i+1)⟩
   have:=wo r (i+1) x hx;omega
  ·exact yU r (i+1)
theorem Cr {i:Nat} {x:fG} (h:p[i]?=H x):rj p (i:Int)=x.Name:=by
 unfold rj;rw[Lw,h];rfl
end Go.Proofs.YtiihkapmggfjkaaGreat
