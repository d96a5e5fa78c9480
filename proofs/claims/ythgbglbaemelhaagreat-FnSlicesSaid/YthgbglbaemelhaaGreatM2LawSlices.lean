/-
  PART.
-/
import Derived.Test.YthgbglbaemelhaaGreatM1LawSlices
import Derived.Deep.DeepMust
import Derived.Laws.Bits128
set_option linter.unusedVariables false
set_option linter.unusedSimpArgs false
set_option maxRecDepth 100000
set_option maxHeartbeats 8000000
namespace Go.Proofs.YthgbglbaemelhaaGreat
open Value renaming slice->G,int->J,bool->H,string->V
open IntKind renaming i64->C,wrap->QP
open Option renaming none->D,some->Z
open Bool renaming false->I,true->M
open Go renaming World->U,Calls->Rh,Addr->Ri
open World renaming cell?->QL
open _root_.Int renaming toNat_natCast->Ra
open List renaming length_cons->Rc,cons_append->Tt
open RowKit renaming intOf->Ry,wrap64->Sf
open _root_.Array renaming length_toList->RM
open UInt8 renaming ofNat->SQ
open Tryz
open Go.RowKit
variable {B a c e f i j k n:Nat}{L:Q UInt8}{S:Q Nat}{cs:Q Value}{s:N}{w:U}
structure gB where
 Kind:Int
 gW:Int
 Name:N
 deriving DecidableEq
def iZ:Ty gB:=(zr.prod (zr.prod iH)).via fun x=>(x.Kind,x.gW,x.Name)
theorem PW {x:gB} (h:iZ.R w B cs x):cs = [J C x.Kind,J C x.gW,V x.Name]/\fD x.Kind/\fD x.gW/\x.Name.size<=9223372036854775807:=by
 obtain⟨_,_,rfl,⟨rfl,a0,a2⟩,⟨_,_,rfl,⟨rfl,a3,a4⟩,⟨rfl,a1⟩⟩⟩:=h;exact⟨rfl,⟨a0,a2⟩,⟨a3,a4⟩,a1⟩
theorem sK {x:gB} (h0:fD x.Kind)(h1:fD x.gW)(h2:x.Name.size<=9223372036854775807):iZ.R w B [J C x.Kind,J C x.gW,V x.Name] x:=by
 exact⟨[J C x.Kind],[J C x.gW,V x.Name],rfl,⟨rfl,h0.1,h0.2⟩,⟨[J C x.gW],[V x.Name],rfl,⟨rfl,h1.1,h1.2⟩,⟨rfl,h2⟩⟩⟩
theorem Ov {x:gB} (h0:fD x.Kind)(h1:fD x.gW)(h2:x.Name.size<=9223372036854775807):iZ.O w [J C x.Kind,J C x.gW,V x.Name] x ([]):=by
 exact⟨[J C x.Kind],[J C x.gW,V x.Name],[],([]++[]),rfl,rfl,⟨rfl,h0.1,h0.2,rfl⟩,⟨[J C x.gW],[V x.Name],[],[],rfl,rfl,⟨rfl,h1.1,h1.2,rfl⟩,⟨rfl,h2,rfl⟩⟩⟩
structure fv where
 Kind:Int
 Name:N
 fM:Q N
 Expr:Q gB
 deriving DecidableEq
def zJ:Ty fv:=(zr.prod (iH.prod ((iH.sl 9).prod (iZ.sl 160)))).via fun x=>(x.Kind,x.Name,x.fM,x.Expr)
theorem OX {x:fv} (h:zJ.R w B cs x):∃ A0 c0 A1 c1,cs = [J C x.Kind,V x.Name,G A0 x.fM.length c0,G A1 x.Expr.length c1]/\fD x.Kind/\x.Name.size<=9223372036854775807/\(iH.sl 9).R w B [G A0 x.fM.length c0] x.fM/\(iZ.sl 160).R w B [G A1 x.Expr.length c1] x.Expr:=by
 obtain⟨_,_,rfl,⟨rfl,a2,a4⟩,⟨_,_,rfl,⟨rfl,a3⟩,⟨_,_,rfl,a0,a1⟩⟩⟩:=h;obtain⟨A0,c0,rfl,_⟩:=id a0;obtain⟨A1,c1,rfl,_⟩:=id a1;exact⟨A0,c0,A1,c1,rfl,⟨a2,a4⟩,a3,a0,a1⟩
theorem OW {x:fv} (h:zJ.O w cs x S):∃ A0 c0 S0 A1 c1 S1,cs = [J C x.Kind,V x.Name,G A0 x.fM.length c0,G A1 x.Expr.length c1]/\S=S0++S1/\fD x.Kind/\x.Name.size<=9223372036854775807/\(iH.sl 9).O w [G A0 x.fM.length c0] x.fM S0/\(iZ.sl 160).O w [G A1 x.Expr.length c1] x.Expr S1:=by
 obtain⟨_,_,_,_,rfl,rfl,⟨rfl,a2,a4,rfl⟩,⟨_,_,_,_,rfl,rfl,⟨rfl,a3,rfl⟩,⟨_,_,_,_,rfl,rfl,a0,a1⟩⟩⟩:=h;obtain⟨A0,c0,_,_,rfl,_⟩:=id a0;obtain⟨A1,c1,_,_,rfl,_⟩:=id a1;exact⟨A0,c0,_,A1,c1,_,rfl,by simp,⟨a2,a4⟩,a3,a0,a1⟩
theorem xO {x:fv} (A0:X Ri)(c0:Nat)(S0:Q Nat)(A1:X Ri)(c1:Nat)(S1:Q Nat)(h0:fD x.Kind)(h1:x.Name.size<=9223372036854775807)(h2:(iH.sl 9).O w [G A0 x.fM.length c0] x.fM S0)(h3:(iZ.sl 160).O w [G A1 x.Expr.length c1] x.Expr S1):zJ.O w [J C x.Kind,V x.Name,G A0 x.fM.length c0,G A1 x.Expr.length c1] x (S0++S1):=by
 have h:zJ.O w [J C x.Kind,V x.Name,G A0 x.fM.length c0,G A1 x.Expr.length c1] x ([]++([]++(S0++S1))):=⟨[J C x.Kind],[V x.Name,G A0 x.fM.length c0,G A1 x.Expr.length c1],[],([]++(S0++S1)),rfl,rfl,⟨rfl,h0.1,h0.2,rfl⟩,⟨[V x.Name],[G A0 x.fM.length c0,G A1 x.Expr.length c1],[],(S0++S1),rfl,rfl,⟨rfl,h1,rfl⟩,⟨[G A0 x.fM.length c0],[G A1 x.Expr.length c1],S0,S1,rfl,rfl,h2,h3⟩⟩⟩
 simpa using h
structure fV where
 Frames:Int
 Inline:Int
 Fold:Bool
 Split:Bool
 deriving DecidableEq
structure fP where
 Op:lY
 fH:Int
 Start:Bool
 fB:Q Int
 fE:Int
 fF:Bool
 deriving DecidableEq
def oT:Ty fP:=(rR.prod (zr.prod (yp.prod ((zr.sl 3).prod (zr.prod yp))))).via fun x=>(x.Op,x.fH,x.Start,x.fB,x.fE,x.fF)
theorem OV {x:fP} (h:oT.R w B cs x):∃ A0 c0,cs = [J C x.Op.Code,J C x.Op.Arg,J C x.fH,H x.Start,G A0 x.fB.length c0,J C x.fE,H x.fF]/\fD x.Op.Code/\fD x.Op.Arg/\fD x.fH/\(zr.sl 3).R w B [G A0 x.fB.length c0] x.fB/\fD x.fE:=by
 obtain⟨_,_,rfl,⟨_,_,rfl,⟨rfl,a0,a1⟩,⟨rfl,a3,a4⟩⟩,⟨_,_,rfl,⟨rfl,a7,a8⟩,⟨_,_,rfl,rfl,⟨_,_,rfl,a2,⟨_,_,rfl,⟨rfl,a5,a6⟩,rfl⟩⟩⟩⟩⟩:=h;obtain⟨A0,c0,rfl,_⟩:=id a2;exact⟨A0,c0,rfl,⟨a0,a1⟩,⟨a3,a4⟩,⟨a7,a8⟩,a2,⟨a5,a6⟩⟩
theorem Hs {x:fP} (h:oT.O w cs x S):∃ A0 c0 S0,cs = [J C x.Op.Code,J C x.Op.Arg,J C x.fH,H x.Start,G A0 x.fB.length c0,J C x.fE,H x.fF]/\S=S0/\fD x.Op.Code/\fD x.Op.Arg/\fD x.fH/\(zr.sl 3).O w [G A0 x.fB.length c0] x.fB S0/\fD x.fE:=by
 obtain⟨_,_,_,_,rfl,rfl,⟨_,_,_,_,rfl,rfl,⟨rfl,a0,a1,rfl⟩,⟨rfl,a3,a4,rfl⟩⟩,⟨_,_,_,_,rfl,rfl,⟨rfl,a7,a8,rfl⟩,⟨_,_,_,_,rfl,rfl,⟨rfl,rfl⟩,⟨_,_,_,_,rfl,rfl,a2,⟨_,_,_,_,rfl,rfl,⟨rfl,a5,a6,rfl⟩,⟨rfl,rfl⟩⟩⟩⟩⟩⟩:=h;obtain⟨A0,c0,_,_,rfl,_⟩:=id a2;exact⟨A0,c0,_,rfl,by simp,⟨a0,a1⟩,⟨a3,a4⟩,⟨a7,a8⟩,a2,⟨a5,a6⟩⟩
theorem CE {x:fP} (A0:X Ri)(c0:Nat)(S0:Q Nat)(h0:fD x.Op.Code)(h1:fD x.Op.Arg)(h2:fD x.fH)(h3:(zr.sl 3).O w [G A0 x.fB.length c0] x.fB S0)(h4:fD x.fE):oT.O w [J C x.Op.Code,J C x.Op.Arg,J C x.fH,H x.Start,G A0 x.fB.length c0,J C x.fE,H x.fF] x (S0):=by
 have h:oT.O w [J C x.Op.Code,J C x.Op.Arg,J C x.fH,H x.Start,G A0 x.fB.length c0,J C x.fE,H x.fF] x (([]++[])++([]++([]++(S0++([]++[]))))):=⟨[J C x.Op.Code,J C x.Op.Arg],[J C x.fH,H x.Start,G A0 x.fB.length c0,J C x.fE,H x.fF],([]++[]),([]++([]++(S0++([]++[])))),rfl,rfl,⟨[J C x.Op.Code],[J C x.Op.Arg],[],[],rfl,rfl,⟨rfl,h0.1,h0.2,rfl⟩,⟨rfl,h1.1,h1.2,rfl⟩⟩,⟨[J C x.fH],[H x.Start,G A0 x.fB.length c0,J C x.fE,H x.fF],[],([]++(S0++([]++[]))),rfl,rfl,⟨rfl,h2.1,h2.2,rfl⟩,⟨[H x.Start],[G A0 x.fB.length c0,J C x.fE,H x.fF],[],(S0++([]++[])),rfl,rfl,⟨rfl,rfl⟩,⟨[G A0 x.fB.length c0],[J C x.fE,H x.fF],S0,([]++[]),rfl,rfl,h3,⟨[J C x.fE],[H x.fF],[],[],rfl,rfl,⟨rfl,h4.1,h4.2,rfl⟩,⟨rfl,rfl⟩⟩⟩⟩⟩⟩
 simpa using h
structure fL where
 Offset:Int
 Item:fP
 deriving DecidableEq
def tC:Ty fL:=(zr.prod oT).via fun x=>(x.Offset,x.Item)
theorem Ou {x:fL} (h:tC.R w B cs x):∃ A0 c0,cs = [J C x.Offset,J C x.Item.Op.Code,J C x.Item.Op.Arg,J C x.Item.fH,H x.Item.Start,G A0 x.Item.fB.length c0,J C x.Item.fE,H x.Item.fF]/\fD x.Offset/\fD x.Item.Op.Code/\fD x.Item.Op.Arg/\fD x.Item.fH/\(zr.sl 3).R w B [G A0 x.Item.fB.length c0] x.Item.fB/\fD x.Item.fE:=by
 obtain⟨_,_,rfl,⟨rfl,a9,aa⟩,⟨_,_,rfl,⟨_,_,rfl,⟨rfl,a1,a2⟩,⟨rfl,a3,a4⟩⟩,⟨_,_,rfl,⟨rfl,a7,a8⟩,⟨_,_,rfl,rfl,⟨_,_,rfl,a0,⟨_,_,rfl,⟨rfl,a5,a6⟩,rfl⟩⟩⟩⟩⟩⟩:=h;obtain⟨A0,c0,rfl,_⟩:=id a0;exact⟨A0,c0,rfl,⟨a9,aa⟩,⟨a1,a2⟩,⟨a3,a4⟩,⟨a7,a8⟩,a0,⟨a5,a6⟩⟩
theorem Ly {x:fL} (A0:X Ri)(c0:Nat)(h0:fD x.Offset)(h1:fD x.Item.Op.Code)(h2:fD x.Item.Op.Arg)(h3:fD x.Item.fH)(h4:(zr.sl 3).R w B [G A0 x.Item.fB.length c0] x.Item.fB)(h5:fD x.Item.fE):tC.R w B [J C x.Offset,J C x.Item.Op.Code,J C x.Item.Op.Arg,J C x.Item.fH,H x.Item.Start,G A0 x.Item.fB.length c0,J C x.Item.fE,H x.Item.fF] x:=by
 exact⟨[J C x.Offset],[J C x.Item.Op.Code,J C x.Item.Op.Arg,J C x.Item.fH,H x.Item.Start,G A0 x.Item.fB.length c0,J C x.Item.fE,H x.Item.fF],rfl,⟨rfl,h0.1,h0.2⟩,⟨[J C x.Item.Op.Code,J C x.Item.Op.Arg],[J C x.Item.fH,H x.Item.Start,G A0 x.Item.fB.length c0,J C x.Item.fE,H x.Item.fF],rfl,⟨[J C x.Item.Op.Code],[J C x.Item.Op.Arg],rfl,⟨rfl,h1.1,h1.2⟩,⟨rfl,h2.1,h2.2⟩⟩,⟨[J C x.Item.fH],[H x.Item.Start,G A0 x.Item.fB.length c0,J C x.Item.fE,H x.Item.fF],rfl,⟨rfl,h3.1,h3.2⟩,⟨[H x.Item.Start],[G A0 x.Item.fB.length c0,J C x.Item.fE,H x.Item.fF],rfl,rfl,⟨[G A0 x.Item.fB.length c0],[J C x.Item.fE,H x.Item.fF],rfl,h4,⟨[J C x.Item.fE],[H x.Item.fF],rfl,⟨rfl,h5.1,h5.2⟩,rfl⟩⟩⟩⟩⟩⟩
theorem tG {e:TypeId} {A:X Ri} {xs:Q gB} (h:(iZ.sl e).R w B [G A n c] xs){k:Nat}(hk:k<xs.length) :
  ∃ g off x ,A=Z ⟨g,off,D⟩/\g<B/\xs[k]?=Z x/\QL w ⟨g,off+k*3,D⟩=Z (J C x.Kind)/\QL w ⟨g,off+k*3+1,D⟩=Z (J C x.gW)/\QL w ⟨g,off+k*3+2,D⟩=Z (V x.Name)/\fD x.Kind/\fD x.gW/\x.Name.size<=9223372036854775807:=by
 obtain⟨g,off,x,ec,h1,hB,h2,h3,h4⟩:=nP h hk;obtain⟨rfl,hf⟩:=PW h3;exact⟨g,off,x,h1,hB,h2,h4 0 _ rfl,h4 1 _ rfl,h4 2 _ rfl,hf⟩
theorem Lb:(prog.info? 160).map (fun i=>(i.zero,i.size,i.bytes))=Z (Z (.agg #[J C 0,J C 0,V ⟨#[]⟩]),3,32):=by kernel_rfl
theorem pP:kA iZ:=wQ _ (oG zD (oG zD lq))
theorem yo:gZ prog 97 160 iZ 32:=by
 obtain⟨i0,hi,a0,a1,a2⟩:=SJ Lb;exact⟨underlying97,⟨i0,_,hi,a0,a1,a2,rfl⟩,by decide⟩
def emp:N:=⟨#[]⟩
def lh (t:gB):Bool:=
 if t.Kind=0 then fT t.gW 0 999 && decide (t.Name=emp)
 else if t.Kind=1 then decide (t.gW=0) && kU t.Name
 else if t.Kind=7 then fT t.gW 0 4 && kU t.Name
 else fT t.Kind 2 6 && (decide (t.gW=0) && decide (t.Name=emp))
def jk (t:gB):Int:=if lh t=M then (if t.Kind=7 then t.gW else if t.Kind=0∨t.Kind=1 then 0 else 2) else -1
theorem Ar {t:gB} (h:lh t=M):0<=jk t/\jk t<=4:=by
 unfold jk;rw[Q5 h];split
 ·rename_i hk
  unfold lh at h;rw[QZ (by omega),QZ (by omega),Q5 hk,Q4,zu] at h;exact h.1
 ·split <;> omega
def nV:Q gB->Nat->Nat->Int
 | _,0,k=>k
 | [],_+1,_=>-1
 | t::r,n+1,k=>if lh t=M then nV r (n+(jk t).toNat) (k+1) else -1
def mx (xs:Q gB)(a:Int):Int:=if a<0 then -1 else nV (xs.drop a.toNat) 1 a.toNat
def py (xs:Q gB):Bool:=decide (0<xs.length) && (decide (xs.length<=20) && decide (mx xs 0=xs.length))
mutual
inductive Ex where
 | node:gB->gk->Ex
inductive gk where
 | nil:gk
 | cons:Ex->gk->gk
end
mutual
def Ex.flat:Ex->Q gB
 | .node t ks=>t::ks.flat
def gk.flat:gk->Q gB
 | .nil=>[]
 | .cons e r=>e.flat++r.flat
end
mutual
def Ex.size:Ex->Nat
 | .node _ ks=>ks.size+1
def gk.size:gk->Nat
 | .nil=>0
 | .cons e r=>e.size+r.size
end
def gk.len:gk->Nat
 | .nil=>0
 | .cons _ r=>r.len+1
mutual
def Ex.wf:Ex->Prop
 | .node t ks=>lh t=M/\jk t=ks.len/\ks.wf
def gk.wf:gk->Prop
 | .nil=>True
 | .cons e r=>e.wf/\r.wf
end
mutual
theorem Ex.gj:∀ e:Ex,e.flat.length=e.size
 | .node t ks=>by simp only[Ex.flat,Ex.size,Rc,gk.gj ks]
theorem gk.gj:∀ ks:gk,ks.flat.length=ks.size
 | .nil=>rfl
 | .cons e r=>by simp only[gk.flat,gk.size,QR,Ex.gj e,gk.gj r]
end
theorem Ex.size_pos:∀ e:Ex,0<e.size
 | .node _ _=>by simp only[Ex.size];omega
theorem gk.kr:∀ ks:gk,ks.len<=ks.size
 | .nil=>Q8 _
 | .cons e r=>by
  have h1:=gk.kr r;have h2:=e.size_pos;simp only[gk.len,gk.size];omega
mutual
theorem Ex.lT:∀(e:Ex),e.wf->∀(r:Q gB)(n k:Nat),nV (e.flat++r) (n+1) k=nV r n (k+e.size)
 | .node t ks,h,r,n,k=>by
  obtain⟨h1,h2,h3⟩:=h;simp only[Ex.flat,Tt,Ex.size,nV];rw[Q5 h1,h2,Ra,gk.lT ks h3];congr 1;omega
theorem gk.lT:∀(ks:gk),ks.wf->∀(r:Q gB)(n k:Nat),nV (ks.flat++r) (n+ks.len) k=nV r n (k+ks.size)
 | .nil,_,r,n,k=>rfl
 | .cons e q,h,r,n,k=>by
  simp only[gk.flat,gk.len,gk.size,Rw];rw[<-UW,Ex.lT e h.1,gk.lT q h.2];congr 1;omega
end
def gk.split:Nat->gk->gk × gk
 | 0,ks=>(.nil,ks)
 | _+1,.nil=>(.nil,.nil)
 | n+1,.cons e r=>(.cons e (gk.split n r).1,(gk.split n r).2)
theorem gk.nL:∀(n:Nat)(ks:gk),n<=ks.len->ks.wf->(gk.split n ks).1.len=n/\(gk.split n ks).1.wf/\(gk.split n ks).2.wf/\(gk.split n ks).2.len=ks.len-n/\(gk.split n ks).1.flat++(gk.split n ks).2.flat=ks.flat/\(gk.split n ks).1.size+(gk.split n ks).2.size=ks.size
 | 0,ks,_,h=>⟨rfl,trivial,h,rfl,rfl,by simp[gk.split,gk.size]⟩
 | n+1,.nil,hn,_=>absurd hn (by simp[gk.len])
 | n+1,.cons e r,hn,h=>by
  obtain⟨h1,h2,h3,h4,h5,h6⟩:=gk.nL n r (by simp only[gk.len] at hn;omega) h.2;simp only[gk.split,gk.len,gk.flat,gk.size,Rw,h5];exact⟨by omega,⟨h.1,h2⟩,h3,by omega,trivial,by omega⟩
theorem E8:∀(xs:Q gB)(n k:Nat)(m:Int),nV xs n k=m->0<=m->∃(ks:gk)(r:Q gB),ks.len=n/\ks.wf/\xs=ks.flat++r/\m=k+ks.size
 | xs,0,k,m,h,_=>⟨.nil,xs,rfl,trivial,rfl,by cases xs <;> (simp only[nV] at h;simp only[gk.size];omega)⟩
 | [],n+1,k,m,h,hm=>by simp only[nV] at h;omega
 | t::r,n+1,k,m,h,hm=>by
  simp only[nV] at h;cases ht:lh t with
  | false=>rw[QZ (by simp[ht])] at h;omega
  | true=>
   rw[Q5 ht] at h;have ha:=Ar ht;obtain⟨ks,r',h1,h2,h3,h4⟩:=E8 r _ _ m h hm;obtain⟨g1,g2,g3,g4,g5,g6⟩:=gk.nL (jk t).toNat ks (by omega) h2;refine⟨.cons (.node t (gk.split (jk t).toNat ks).1) (gk.split (jk t).toNat ks).2,r',?_,⟨⟨ht,by rw[g1];omega,g2⟩,g3⟩,?_,?_⟩
   ·simp only[gk.len,g4];omega
   ·rw[h3];simp only[gk.flat,Ex.flat,Tt,<-g5,Rw]
   ·simp only[gk.size,Ex.size];omega
theorem JU {xs:Q gB} {m:Int} (h:mx xs a=m)(hm:0<=m):∃(e:Ex)(r:Q gB),e.wf/\xs.drop a=e.flat++r/\m=a+e.size:=by
 unfold mx at h;rw[QZ (by omega),Ra] at h;obtain⟨ks,r,h1,h2,h3,h4⟩:=E8 _ _ _ m h hm
 match ks,h1,h2,h3,h4 with
 | .cons e .nil,_,h2,h3,h4=>exact⟨e,r,h2.1,by simpa[gk.flat] using h3,by simpa[gk.size] using h4⟩
theorem Cf {xs:Q gB} {e:Ex} {r:Q gB} (he:e.wf)(h:xs.drop a=e.flat++r):mx xs a=((a+e.size:Nat):Int):=by
 unfold mx;rw[QZ (by omega),Ra,h,Ex.lT e he r 0 a];cases r <;> rfl
theorem Eo {xs:Q gB} (h:py xs=M):∃ e:Ex,e.wf/\xs=e.flat/\xs.length<=20:=by
 unfold py at h;simp only[Q4,Rg] at h;obtain⟨h1,h2,h3⟩:=h;obtain⟨e,r,g1,g2,g3⟩:=JU (a:=0) (m:=xs.length) h3 (by omega);rw[RZ] at g2;refine⟨e,g1,?_,h2⟩;have hl:=Sg List.length g2;rw[QR,e.gj] at hl;have hr:r.length=0:=by omega
 rw[Tj.1 hr,SC] at g2;exact g2
theorem Ex.ok {e:Ex} (he:e.wf)(h:e.size<=20):py e.flat=M:=by
 unfold py;simp only[Q4,Rg,e.gj];refine⟨e.size_pos,h,?_⟩;have:=Cf (xs:=e.flat) (a:=0) (e:=e) (r:=[]) he (by simp);rw[show ((0:Nat):Int)=0 from rfl] at this;rw[this];simp
def gk.gN:gk->Nat->Q Int
 | .nil,_=>[]
 | .cons e r,k=>(k:Int)::r.gN (k+e.size)
theorem gk.ku:∀(ks:gk)(k:Nat),(ks.gN k).length=ks.len
 | .nil,_=>rfl
 | .cons _ r,k=>by simp[gk.gN,gk.len,gk.ku r]
theorem wO {α:Type} {xs:Q α} {x:α} {r:Q α} (h:xs.drop k=x::r):xs[k]?=Z x/\xs.drop (k+1)=r:=by
 constructor
 ·have:=Sg (fun l=>l[0]?) h
  simpa[Tw] using this
 ·rw[<-TH,h];rfl
def np (k:Int):Bool:=decide (k=0) || (decide (k=3) || decide (k=5))
def kR (x:fv):Int:=if np x.Kind=M then 1 else if x.Kind=7 then -1 else 0
def zE (p:Q fv)(i:Nat):Int:=((p.take i).map kR).sum
theorem sA {p:Q fv} {x:fv} (h:p[i]?=Z x):zE p (i+1)=zE p i+kR x:=by
 obtain⟨h1,rfl⟩:=QM.1 h;unfold zE;rw[List.take_succ_eq_append_getElem h1,TR,List.sum_append];simp
theorem wF (x:fv):(np x.Kind=M/\kR x=1)∨(np x.Kind=I/\x.Kind=7/\kR x = -1)∨(np x.Kind=I/\x.Kind≠7/\kR x=0):=by
 unfold kR;cases h:np x.Kind with
 | true=>exact .inl ⟨rfl,rfl⟩
 | false=>
  by_cases h7:x.Kind=7
  ·exact .inr (.inl ⟨rfl,h7,by simp[h7]⟩)
  ·exact .inr (.inr ⟨rfl,h7,by simp[h7]⟩)
def rm:Q fv->Int->Nat->Int
 | [],_,_=>-1
 | x::r,o,i=>if o+kR x=0 then (i:Int) else rm r (o+kR x) (i+1)
def iN (p:Q fv)(k:Int):Int:=if k<0 then -1 else match p[k.toNat]? with
 | none=>-1
 | some x=>if np x.Kind=M then rm (p.drop k.toNat) 0 k.toNat else -1
theorem xA {p:Q fv} {x:fv} (h:p[i]?=Z x)(o:Int):rm (p.drop i) o i=if o+kR x=0 then (i:Int) else rm (p.drop (i+1)) (o+kR x) (i+1):=by
 obtain⟨h1,rfl⟩:=QM.1 h;rw[Q6 h1];rfl
structure gz (p:Q fv)(k e:Nat):Prop where
 op:∃ x,p[k]?=Z x/\np x.Kind=M
 lt:k<e
 len:e<p.length
 eq:zE p (e+1)=zE p k
 up:∀ i,k<i->i<=e->zE p k<zE p i
theorem El {p:Q fv}{k:Nat}:∀(m i:Nat),p.length-i=m->k<=i->(∀ j,k<j->j<=i->zE p k<zE p j)->(i=k->∃ x,p[k]?=Z x/\np x.Kind=M)->
  (rm (p.drop i) (zE p i-zE p k) i = -1/\∀ j,i<=j->j<p.length->zE p (j+1)≠zE p k)∨∃ e:Nat,rm (p.drop i) (zE p i-zE p k) i=(e:Int)/\i<=e/\e<p.length/\zE p (e+1)=zE p k/\∀ j,k<j->j<=e->zE p k<zE p j
 | 0,i,hm,hk,hu,h0=>by
  rw[SX (by omega)];exact .inl ⟨rfl,fun j h1 h2=>by omega⟩
 | m+1,i,hm,hk,hu,h0=>by
  have hi:i<p.length:=by omega
  have hx:p[i]?=Z p[i]:=QW hi;have hs:=sA hx;rw[xA hx,show zE p i-zE p k+kR p[i]=zE p (i+1)-zE p k from by omega];by_cases he:zE p (i+1)-zE p k=0
  ·rw[Q5 he]
   exact .inr ⟨i,rfl,Q8 _,hi,by omega,hu⟩
  ·rw[QZ he]
   have a1:zE p k<zE p (i+1):=by
    rcases UB hk with h | h
    ·obtain⟨x,a0,ho⟩:=h0 h.symm
     subst h;rw[hx] at a0;injection a0 with a0
     rcases wF p[k] with⟨_,h2⟩ | ⟨h2,_⟩ | ⟨h2,_⟩
     ·omega
     ·rw[a0,ho] at h2;cases h2
     ·rw[a0,ho] at h2;cases h2
    ·have h1:=hu i h (Q8 _)
     rcases wF p[i] with⟨_,h2⟩ | ⟨_,_,h2⟩ | ⟨_,_,h2⟩ <;> omega
   rcases El (p:=p) (k:=k) m (i+1) (by omega) (by omega) (fun j h1 h2=>by
    by_cases hj:j=i+1
    ·subst hj;exact a1
    ·exact hu j h1 (by omega)) (fun h=>by omega) with⟨g1,g2⟩ | ⟨e,g1,g2,g3,g4,g5⟩
   ·exact .inl ⟨g1,fun j h1 h2=>by
     by_cases hj:j=i
     ·subst hj;omega
     ·exact g2 j (by omega) h2⟩
   ·exact .inr ⟨e,g1,by omega,g3,g4,g5⟩
theorem wE (p:Q fv)(k:Nat):(iN p k = -1/\∀ e,¬ gz p k e)∨∃ e:Nat,iN p k=(e:Int)/\gz p k e:=by
 unfold iN;rw[QZ (by omega),Ra];cases hx:p[k]? with
 | none=>exact .inl ⟨rfl,fun e h=>by obtain⟨x,h1,_⟩:=h.op;rw[hx] at h1;cases h1⟩
 | some x=>
  cases ho:np x.Kind with
  | false=>exact .inl ⟨by simp[ho],fun e h=>by obtain⟨y,h1,h2⟩:=h.op;rw[hx] at h1;injection h1 with h1;rw[<-h1,ho] at h2;cases h2⟩
  | true=>
   simp only[ho,Tk];have a0:=(QM.1 hx).1;rcases El (p:=p) (k:=k) _ k rfl (Q8 _) (fun j h1 h2=>by omega) (fun _=>⟨x,hx,ho⟩) with⟨g1,g2⟩ | ⟨e,g1,g2,g3,g4,g5⟩
   ·rw[Int.sub_self] at g1
    exact .inl ⟨g1,fun e h=>g2 e (by have:=h.lt;omega) h.len h.eq⟩
   ·rw[Int.sub_self] at g1
    refine .inr ⟨e,g1,⟨x,hx,ho⟩,?_,g3,g4,g5⟩;rcases UB g2 with h | h
    ·subst h
     have hs:=sA hx;rcases wF x with⟨_,h2⟩ | ⟨h2,_⟩ | ⟨h2,_⟩
     ·omega
     ·rw[ho] at h2;cases h2
     ·rw[ho] at h2;cases h2
    ·exact h
theorem LU {p:Q fv} (h:iN p k=(e:Int)):gz p k e:=by
 rcases wE p k with⟨h1,_⟩ | ⟨e',h1,h2⟩
 ·omega
 ·have:e'=e:=by omega
  subst this;exact h2
theorem gz.uniq {p:Q fv} {e':Nat} (h:gz p k e)(h':gz p k e'):e=e':=by
 rcases Uj e e' with hl | hl | hl
 ·have:=h'.up (e+1) (by have:=h.lt;omega) (by omega);have:=h.eq;omega
 ·exact hl
 ·have:=h.up (e'+1) (by have:=h'.lt;omega) (by omega);have:=h'.eq;omega
theorem gz.iS {p:Q fv} (h:gz p k e):iN p k=(e:Int):=by
 rcases wE p k with⟨_,h2⟩ | ⟨e',h1,h2⟩
 ·exact absurd h (h2 e)
 ·rw[h1,h.uniq h2]
theorem Gt {p:Q fv} {k:Int} (h:k<0):iN p k = -1:=by unfold iN;rw[Q5 h]
theorem vJ (p:Q fv)(k:Int):iN p k = -1∨∃ a e:Nat,k=(a:Int)/\iN p k=(e:Int)/\gz p a e:=by
 by_cases hk:k<0
 ·exact .inl (Gt hk)
 ·obtain⟨a,rfl⟩:∃ a:Nat,k=(a:Int):=⟨k.toNat,by omega⟩
  rcases wE p a with⟨h,_⟩ | ⟨e,h1,h2⟩
  ·exact .inl h
  ·exact .inr ⟨a,e,rfl,h1,h2⟩
theorem IX {p:Q fv}{v:Int}:∀(m i j:Nat),j-i=m->i<=j->j<=p.length->v<zE p i->zE p j<=v->∃ e,i<=e/\e<j/\zE p (e+1)=v/\∀ q,i<=q->q<=e->v<zE p q
 | 0,i,j,hm,hij,hl,h1,h2=>by
  have:i=j:=by omega
  subst this;omega
 | m+1,i,j,hm,hij,hl,h1,h2=>by
  have hi:i<p.length:=by omega
  have hs:=sA (QW hi);by_cases he:zE p (i+1)=v
  ·exact⟨i,Q8 _,by omega,he,fun q a b=>by
    have:q=i:=by omega
    subst this;exact h1⟩
  ·have:v<zE p (i+1):=by rcases wF p[i] with⟨_,h⟩ | ⟨_,_,h⟩ | ⟨_,_,h⟩ <;> omega
   obtain⟨e,g1,g2,g3,g4⟩:=IX m (i+1) j (by omega) (by omega) hl this h2
   exact⟨e,by omega,g2,g3,fun q a b=>by
    by_cases hq:q=i
    ·subst hq;exact h1
    ·exact g4 q (by omega) b⟩
theorem gz.inner {p:Q fv} {x:fv} (h:gz p k e)(h1:k<i)(h2:i<e)(hx:p[i]?=Z x)(ho:np x.Kind=M):∃ e',gz p i e'/\i<e'/\e'<e:=by
 have hl:=h.len;have hs:=sA hx;have hd:kR x=1:=by unfold kR;rw[Q5 ho]
 have a0:=h.up i h1 (by omega);obtain⟨e',g1,g2,g3,g4⟩:=IX (p:=p) (v:=zE p i) _ (i+1) (e+1) rfl (by omega) (by omega) (by omega) (by rw[h.eq];omega)
 have:e'≠e:=by
  intro hh;subst hh;have:=h.eq;omega
 exact⟨e',⟨⟨x,hx,ho⟩,by omega,by omega,g3,fun q a b=>g4 q (by omega) b⟩,by omega,by omega⟩
theorem gz.last {p:Q fv} (h:gz p k e):∃ x,p[e]?=Z x/\x.Kind=7:=by
 have hl:=h.len;have hx:p[e]?=Z p[e]:=QW h.len;have hs:=sA hx;have h1:=h.up e h.lt (Q8 _);have h2:=h.eq;refine⟨_,hx,?_⟩;rcases wF p[e] with⟨_,h⟩ | ⟨_,h,_⟩ | ⟨_,_,h⟩
 ·omega
 ·exact h
 ·omega
theorem gz.same {p:Q fv} (h:gz p i e)(h':gz p j e):i=j:=by
 rcases Uj i j with hl | hl | hl
 ·obtain⟨x,hx,ho⟩:=h'.op
  obtain⟨e',g1,_,g3⟩:=h.inner hl h'.lt hx ho;have:=g1.uniq h';omega
 ·exact hl
 ·obtain⟨x,hx,ho⟩:=h.op
  obtain⟨e',g1,_,g3⟩:=h'.inner hl h.lt hx ho;have:=g1.uniq h;omega
def oO (p:Q fv):Nat->Nat->Int->Int
 | 0,_,_=>-1
 | n+1,i,e=>if (i:Int)<e then (match p[i]? with
   | none=>-1
   | some x=>if x.Kind=3∨x.Kind=5 then oO p n ((iN p i).toNat+1) e else if x.Kind=4 then (i:Int) else oO p n (i+1) e) else -1
def kh (p:Q fv)(k:Int):Int:=if iN p k<0 then -1 else match p[k.toNat]? with
 | none=>-1
 | some x=>if x.Kind=3 then oO p p.length (k.toNat+1) (iN p k) else -1
theorem Cm {p:Q fv} (h:gz p k e):∀(n i:Nat),k<i->i<=e->e-i<n->oO p n i (e:Int)=if (i:Int)<(e:Int) then (match p[i]? with
   | none=>-1
   | some x=>if x.Kind=3∨x.Kind=5 then oO p (n-1) ((iN p i).toNat+1) e else if x.Kind=4 then (i:Int) else oO p (n-1) (i+1) e) else -1
 | 0,_,_,_,hn=>by omega
 | n+1,i,h1,h2,hn=>rfl
structure iW (p:Q fv)(k j:Nat):Prop where
 iff:∃ x,p[k]?=Z x/\x.Kind=3
 lt:k<j
 Bn:∃ x,p[j]?=Z x/\x.Kind=4
 iU:∃ e,gz p k e/\j<e
 out:∀ i x,k<i->i<j->p[i]?=Z x->np x.Kind=M->x.Kind≠0->∃ e,gz p i e/\e<j
theorem Km {p:Q fv} (h:gz p k e)(hk:∃ x,p[k]?=Z x/\x.Kind=3):∀(m n i:Nat),e-i=m->k<i->i<=e->e-i<n->(∀ q x,k<q->q<i->p[q]?=Z x->np x.Kind=M->x.Kind≠0->∃ b,gz p q b/\b<i)->
  oO p n i (e:Int) = -1∨∃ j:Nat,oO p n i (e:Int)=(j:Int)/\iW p k j:=by
 intro m;induction m using Nat.strongRecOn with
 | ind m ih=>
  intro n i hm h1 h2 hn ho;rw[Cm h n i h1 h2 hn];by_cases hi:(i:Int)<(e:Int)
  ·rw[Q5 hi]
   have a0:i<p.length:=by have:=h.len;omega
   have hx:p[i]?=Z p[i]:=QW a0;rw[hx];simp only;by_cases hki:p[i].Kind=3∨p[i].Kind=5
   ·rw[Q5 hki]
    have a1:np p[i].Kind=M:=by rcases hki with hk | hk <;> (rw[hk];decide)
    obtain⟨e',g1,g2,g3⟩:=h.inner h1 (by omega) hx a1;rw[g1.iS,Ra];refine ih (e-(e'+1)) (by omega) _ _ rfl (by omega) (by omega) (by omega) (fun q x a b c d z=>?_);rcases Uj q i with hq | hq | hq
    ·obtain⟨b',w1,w2⟩:=ho q x a hq c d z
     exact⟨b',w1,by omega⟩
    ·subst hq
     exact⟨e',g1,by omega⟩
    ·by_cases hqe:q=e'
     ·subst hqe
      obtain⟨y,hy,h7⟩:=g1.last;rw[c] at hy;injection hy with hy
      rw[hy,h7] at d;cases d
     ·obtain⟨b',w1,w2,w3⟩:=g1.inner hq (by omega) c d
      exact⟨b',w1,by omega⟩
   ·rw[QZ hki]
    by_cases h4:p[i].Kind=4
    ·rw[Q5 h4]
     exact .inr ⟨i,rfl,hk,h1,⟨_,hx,h4⟩,⟨e,h,by omega⟩,ho⟩
    ·rw[QZ h4]
     refine ih (e-(i+1)) (by omega) _ _ rfl (by omega) (by omega) (by omega) (fun q x a b c d z=>?_);by_cases hq:q=i
     ·subst hq
      rw[hx] at c;injection c with c
      subst c;exfalso;unfold np at d;simp only[Uu,Rg] at d;omega
     ·obtain⟨b',w1,w2⟩:=ho q x a (by omega) c d z
      exact⟨b',w1,by omega⟩
  ·rw[QZ hi]
   exact .inl rfl
theorem DY (p:Q fv)(k:Nat):kh p k = -1∨∃ j:Nat,kh p k=(j:Int)/\iW p k j:=by
 unfold kh;rcases wE p k with⟨h,_⟩ | ⟨e,h1,h2⟩
 ·rw[h];exact .inl rfl
 ·rw[h1,QZ (by omega),Ra]
  obtain⟨x,hx,ho⟩:=h2.op;rw[hx];simp only;by_cases h3:x.Kind=3
  ·rw[Q5 h3]
   have:=h2.len;have:=h2.lt;exact Km h2 ⟨x,hx,h3⟩ _ _ _ rfl (by omega) (by omega) (by omega) (fun q x a b=>by omega)
  ·rw[QZ h3]
   exact .inl rfl
theorem iW.same {p:Q fv} (h:iW p i k)(h':iW p j k):i=j:=by
 rcases Uj i j with hl | hl | hl
 ·obtain⟨x,hx,h3⟩:=h'.iff
  obtain⟨e,g1,g2⟩:=h.out j x hl h'.lt hx (by rw[h3];decide) (by rw[h3];decide);obtain⟨e',w1,w2⟩:=h'.iU;have:=g1.uniq w1;omega
 ·exact hl
 ·obtain⟨x,hx,h3⟩:=h.iff
  obtain⟨e,g1,g2⟩:=h'.out i x hl h.lt hx (by rw[h3];decide) (by rw[h3];decide);obtain⟨e',w1,w2⟩:=h.iU;have:=g1.uniq w1;omega
def qI (n:Nat):Q UInt8:=if n<128 then [SQ n] else SQ (n % 128+128)::qI (n / 128)
termination_by n
decreasing_by omega
theorem C8 (h:n<128):qI n = [SQ n]:=by rw[qI,Q5 h]
theorem Hy (h:128<=n):qI n=SQ (n % 128+128)::qI (n / 128):=by rw[qI,QZ (by omega)]
def jo (n:Int):N:=if fT n 0 1099511627775 then ⟨(qI n.toNat).toArray⟩ else ⟨#[]⟩
theorem BN (k:IntKind)(x y:Int):bits .or k x y=bits .or k y x:=by simp only[bits,BitVec.or_comm]
theorem Af (n:Int)(h0:0<=n)(h1:n<2 ^ 62):QP C n=n:=RU n ⟨by omega,by omega⟩
theorem Pg (m:Nat):bits .or C ((m:Int) % 128) 128=(m:Int) % 128+128:=by
 rw[BN,bits_join C 62 (by decide) Af 7 128 _ (by decide) (by decide) (by decide) (by omega) (by omega) (by omega)];omega
theorem CJ (n:Nat)(h:n<256):mX.R w B [J .u8 (n:Int)] (SQ n):=GR (x:=(n:Int)) (by omega) (by omega)
theorem Py (m:Nat):mX.R w B [J .u8 ((m:Int) % 128+128)] (SQ (m % 128+128)):=CJ (m % 128+128) (by omega)
theorem zfs (n:Int)(w:U):Rh prog 117 #[J C n] w fun e w'=>e=.returned (V (jo n))/\ft w w':=by
 cases hb:fT n 0 1099511627775
 ·have HS:=fh (show jo n=⟨#[]⟩ from by simp[jo,hb])
  have HB:=fh hb;clear hb;go_enter func117,ntmps117;go_wp2_with(go_at_call 43;(with_reducible refine(gY _ _ _ _).mono ?_);rw[HB.out];rintro e w1 ⟨rfl,rfl⟩);go_ret;exact⟨mH HS.out.symm,gG⟩
 ·obtain⟨a2,a4⟩:=zu.1 hb
  obtain⟨n,rfl⟩:=Rl a2;have HS:=fh (show jo n=⟨(qI n).toArray⟩ from by simp[jo,hb]);have HB:=fh hb;clear hb;go_enter func117,ntmps117;go_wp2_with(go_at_call 43;(with_reducible refine(gY _ _ _ _).mono ?_);rw[HB.out];rintro e w1 ⟨rfl,rfl⟩);go_loopw [0,3] (fun a b wr=>∃(m:Nat) (a0:Q UInt8) (A:X Ri) (c:Nat),a=J C m/\b=G A a0.length c/\a0.length+m<=n/\Hid (a0++qI m=qI n)/\Hid (ft w wr)/\Hid (fU (mX.sl 5) w wr [G A a0.length c] a0)) (fun a _ _=>(Ry a).toNat)
  case atStart=>exact⟨n,[],_,0,rfl,rfl,by simp,fh (by simp),fh gG,fh (xK gG (by simp))⟩
  case round=>
   obtain⟨m,a0,A,c,rfl,rfl,hm,HT,hG,hF⟩:=hrel;obtain⟨os,d,rfl⟩:=hG.out;clear hG;by_cases hlt:127<m
   ·have e1:=i64_and127 m
    have e2:=Pg m;have HN:=fh (Hy (n:=m) (by omega));go_wp2_with(at_builtin;go_must (refine xy (L:=a0.length+1) rfl (.tmp 10) (.tmp 15) Dm ze (W0:=w) (hF.out.fx gG).nH gG (W1:=w) (B:=0) (ec:=[J .u8 ((m:Int) % 128+128)]) (y:=SQ (m % 128+128)) (Py m) rfl rfl rfl (by intro j u hu;simpa[go_sem] using hu) rfl (by omega) (by omega) ?_);intro A2 c2 a3 d2 a1);go_roundw;exact⟨m / 128,a0++[SQ (m % 128+128)],A2,c2,by go_num,by simp,by simp;omega,fh (by rw[<-HT.out,HN.out];simp),fh gG,fh (by simpa using a1)⟩;exact gH
   ·have HN:=fh (C8 (n:=m) (by omega))
    go_wp2_with(at_builtin;go_must (refine xy (L:=a0.length+1) rfl (.tmp 19) (.tmp 22) Dm ze (W0:=w) (hF.out.fx gG).nH gG (W1:=w) (B:=0) (ec:=[J .u8 (m:Int)]) (y:=SQ m) (CJ m (by omega)) rfl rfl rfl (by intro j u hu;simpa[go_sem] using hu) rfl (by omega) (by omega) ?_);intro A2 c2 a3 d2 a1;have kc:=E5 a1.read);go_ret;exact⟨mH (by rw[HS.out,<-HT.out,HN.out]),gG⟩
def pC (L:Q UInt8)(a:Nat):Nat->Nat->Nat->Nat × Nat × Bool
 | 0,_,_=>(0,0,I)
 | f+1,k,n=>match L[a+k]? with
  | none=>(0,0,I)
  | some b=>if b.toNat<128 then (if (jo ((n+b.toNat % 128*128 ^ k:Nat):Int)).data.toList=(L.drop a).take (k+1) then (n+b.toNat % 128*128 ^ k,k+1,M) else (0,0,I)) else pC L a f (k+1) (n+b.toNat % 128*128 ^ k)
theorem Cd {b:UInt8} (h:L[a+k]?=Z b):pC L a (f+1) k n=if b.toNat<128 then (if (jo ((n+b.toNat % 128*128 ^ k:Nat):Int)).data.toList=(L.drop a).take (k+1) then (n+b.toNat % 128*128 ^ k,k+1,M) else (0,0,I)) else pC L a f (k+1) (n+b.toNat % 128*128 ^ k):=by
 rw[pC,h]
theorem yQ (h:L[a+k]?=D):pC L a (f+1) k n=(0,0,I):=by
 rw[pC,h]
def iE (s:N)(a:Int):Nat × Nat × Bool:=if 0<=a then pC s.data.toList a.toNat 6 0 0 else (0,0,I)
def It (p:Nat × Nat × Bool)(w:U)(e:Ending)(w':U):Prop:=e=.returned (.tuple #[J C p.1,J C p.2.1,H p.2.2])/\ft w w'
theorem wT {p q:Nat × Nat × Bool} (h:p=q){w w':U}(hG:ft w w'):It p w (.returned (.tuple #[J C q.1,J C q.2.1,H q.2.2])) w':=by
 subst h;exact⟨rfl,hG⟩
theorem GI (s:N)(a b:Nat):(s.extract a b).data.toList=(s.data.toList.drop a).take (b-a):=by
 rw[ByteArray.data_extract,Array.toList_extract]
theorem GV {a:Int} (hb:fT a 0 ((s.size:Int)-1)=I):iE s a=(0,0,I):=by
 unfold iE;split
 ·rename_i h0
  obtain⟨n,rfl⟩:=Rl h0
  have hn:s.data.toList[(n:Int).toNat+0]?=D:=by
   rw[R6];have h1:s.data.toList.length=s.size:=by rw[RM];rfl
   have:¬ (n:Int)<=s.size-1:=fun h=>by rw[pU (by omega) h] at hb;cases hb
   rw[h1,Ra];omega
  exact yQ hn
 ·rfl
theorem Dk (j:Nat):(2:Int) ^ (7*j)=((128 ^ j:Nat):Int):=by
 rw[Int.pow_mul];norm_cast
theorem Gv (b:UInt8):bits .and .u8 (b.toNat:Int) 127=(b.toNat:Int) % 128:=bits_mask .u8 8 (by decide) wraps_u8 7 (by decide) _ (by omega) (by have:=b.toNat_lt;omega)
theorem Ph {m:Nat} (b:UInt8)(hj:j<6)(hm:m<128 ^ j):bits .or C (m:Int) (Sf ((b.toNat:Int) % 128*2 ^ (7*j)))=((m+b.toNat % 128*128 ^ j:Nat):Int)/\m+b.toNat % 128*128 ^ j<128 ^ (j+1)/\m+b.toNat % 128*128 ^ j<4398046511104:=by
 have hp:128 ^ (j+1)<=4398046511104:=by
  have h:=TW (show 0<128 by omega) (show j+1<=6 by omega);exact h
 have hb:b.toNat % 128<=127:=by omega
 have a0:b.toNat % 128*128 ^ j<=127*128 ^ j:=Sk _ hb;have hs:(128:Nat) ^ (j+1)=128*128 ^ j:=by rw[Nat.pow_succ,UM]
 have e1:((b.toNat:Int) % 128*2 ^ (7*j))=((b.toNat % 128*128 ^ j:Nat):Int):=by
  rw[Dk];push_cast;rfl
 have e2:Sf ((b.toNat % 128*128 ^ j:Nat):Int)=((b.toNat % 128*128 ^ j:Nat):Int):=rS (by omega) (by omega);refine⟨?_,by omega,by omega⟩;rw[e1,e2,BN,bits_join C 62 (by decide) Af (7*j) _ _ (by omega) (by rw[Dk];norm_cast;exact Nat.mul_mod_left _ _) (by norm_cast;omega) (by omega) (by rw[Dk];exact_mod_cast hm) (by norm_cast;omega)];push_cast;omega
theorem zdl (s:N)(a:Int)(w:U)(hs:s.size<=1099511627776)(ha:fD a):Rh prog 108 #[V s,J C a] w (It (iE s a) w):=by
 obtain⟨a5,a6⟩:=ha;by_cases hb1:0<=a
 case neg=>
  have HS:=fh (GV (s:=s) (a:=a) (by simp[fT];omega));go_enter func108,ntmps108;go_wp2;go_ret3;exact wT HS.out gG
 by_cases hb2:a<=(s.size:Int)-1
 case neg=>
  have HS:=fh (GV (s:=s) (a:=a) (by simp[fT];omega));go_enter func108,ntmps108;go_wp2_with(fail);go_loop [7,8] (fun x y=>x=J C 0/\y=J C 0) (fun _ _=>0)
  case atStart=>exact⟨rfl,rfl⟩
  case round=>
   obtain⟨rfl,rfl⟩:=hrel;go_wp2;go_ret3;exact wT HS.out gG
 ·skip
  obtain⟨a,rfl⟩:=Rl hb1;have HS:=fh (show iE s a=pC s.data.toList a 6 0 0 from by simp[iE]);go_enter func108,ntmps108;go_wp2_with(fail);go_loopw [7,8] (fun x y wr=>∃(m j:Nat),x=J C m/\y=J C j/\j<=6/\Hid (m<128 ^ j)/\m<4398046511104/\Hid (pC s.data.toList a (6-j) j m=pC s.data.toList a 6 0 0)/\Hid (ft w wr)) (fun _ y _=>6-(Ry y).toNat)
  case atStart=>exact⟨0,0,rfl,rfl,by omega,fh (by omega),by omega,fh rfl,fh gG⟩
  case round=>
   obtain⟨m,j,rfl,rfl,hj,hm,a7,HT,hG⟩:=hrel;obtain⟨os,d,rfl⟩:=hG.out;clear hG;by_cases hj6:j<6
   ·obtain⟨f,hf⟩:∃ f,6-j=f+1:=⟨5-j,by omega⟩
    have a0:=fh hf;have a1:=fh (show 6-(j+1)=f by omega);clear hf;by_cases hlt:a+j<s.size
    ·have HX:=fh (xR s (a+j) hlt)
     obtain⟨a8,a9⟩:0<=(s[a+j].toNat:Int)/\(s[a+j].toNat:Int)<=255:=by have:=s[a+j].toNat_lt;omega
     obtain⟨o1,o2,o3⟩:=Ph s[a+j] hj6 hm.out;obtain⟨v,hv⟩:∃ v,m+s[a+j].toNat % 128*128 ^ j=v:=⟨_,rfl⟩
     rw[hv] at o1 o2 o3;have HV:=fh hv;have O2:=fh o2;clear hv o2;have HD:=fh (Cd (f:=f) (n:=m) HX.out);by_cases hb127:¬ (s[a+j].toNat:Int)<128
     ·have e1:=Gv s[a+j]
      go_wp2_with(fail);go_roundw;exact⟨v,j+1,rfl,by go_num,by omega,O2,by omega,fh (by rw[<-HT.out,a0.out,a1.out,HD.out,QZ (by omega),HV.out]),fh gG⟩;exact gH
     ·have e1:=Gv s[a+j]
      by_cases hq:jo v=s.extract a (a+j+1)
      ·have hQ:=fh (show iE s a=(v,j+1,M) from by
        rw[HS.out,<-HT.out,a0.out,HD.out,Q5 (by omega),HV.out,Q5 (by rw[hq,GI,show a+j+1-a=j+1 from by omega])])
       have a3:((jo (v:Int)).toList == (s.extract a ((a:Int)+j+1).toNat).toList)=M:=by
        rw[lp,hq,show ((a:Int)+j+1).toNat=a+j+1 from by omega];simp
       clear hq;go_wp2_with(fail);have w1:QP C ((a:Int)+j)=(a:Int)+j:=RU _ (by omega);have w2:QP C ((a:Int)+j+1)=(a:Int)+j+1:=RU _ (by omega);have w3:(0:Int)<=(a:Int)+j+1:=by omega
       have w4:(a:Int)+j+1<=s.size:=by omega
       have w5:(a:Int)<=(a:Int)+j+1:=by omega
       go_region_held3 (fun w'=>True) (trivial) (first | (go_at_call 117;refine(zfs _ _).mono ?_;rintro e w2 ⟨rfl,a4,d2,rfl⟩));go_wp2;go_ret3;exact wT (q:=(v,j+1,M)) hQ.out gG
      ·have hQ:=fh (show iE s a=(0,0,I) from by
        rw[HS.out,<-HT.out,a0.out,HD.out,Q5 (by omega),HV.out,QZ];intro h;refine hq (UI (Array.toList_inj.1 ?_))
        rw[h,GI,show a+j+1-a=j+1 from by omega])
       have a3:((jo (v:Int)).toList == (s.extract a ((a:Int)+j+1).toNat).toList)=I:=by
        rw[lp,show ((a:Int)+j+1).toNat=a+j+1 from by omega];simp[hq]
       clear hq;go_wp2_with(fail);have w1:QP C ((a:Int)+j)=(a:Int)+j:=RU _ (by omega);have w2:QP C ((a:Int)+j+1)=(a:Int)+j+1:=RU _ (by omega);have w3:(0:Int)<=(a:Int)+j+1:=by omega
       have w4:(a:Int)+j+1<=s.size:=by omega
       have w5:(a:Int)<=(a:Int)+j+1:=by omega
       go_region_held3 (fun w'=>True) (trivial) (first | (go_at_call 117;refine(zfs _ _).mono ?_;rintro e w2 ⟨rfl,a4,d2,rfl⟩));go_wp2;go_ret3;exact wT (q:=(0,0,I)) hQ.out gG
    ·have hQ:=fh (show iE s a=(0,0,I) from by
      rw[HS.out,<-HT.out,a0.out,yQ];rw[R6,RM]
      exact Nat.le_of_not_lt hlt)
     go_wp2_with(fail);go_ret3;exact wT (q:=(0,0,I)) hQ.out gG
   ·have a2:j=6:=by omega
    subst a2;have hQ:=fh (show iE s a=(0,0,I) from by rw[HS.out,<-HT.out];rfl);go_wp2_with(fail);go_ret3;exact wT (q:=(0,0,I)) hQ.out gG
def iv (c:Int):Nat × Bool:=
 if c=0 then (4,M)
 else if c=1∨c=2∨c=3∨c=4∨c=10∨c=11 then (2,M)
 else if c=16 then (2,I)
 else if c=12∨c=13∨c=14∨c=15 then (1,I)
 else (0,I)
theorem zw (c:Int):iv c=(4,M)∨iv c=(2,M)∨iv c=(2,I)∨iv c=(1,I)∨iv c=(0,I):=by
 unfold iv;split
 ·simp
 ·split
  ·simp
  ·split
   ·simp
   ·split <;> simp
theorem rr (c:Int):(iv c).1<=4:=by
 rcases zw c with h | h | h | h | h <;> rw[h] <;> decide
def zL (c:Int):Int:=if fT c 0 17=M then ((iv c).1:Int)+1 else 0
def lE (s:N)(a:Nat):Nat:=(s.data.toList[a]?.map UInt8.toNat).getD 0
theorem xQ (h:a<s.size):lE s a=s[a].toNat:=by
 unfold lE;rw[xR s a h];rfl
theorem CI (s:N)(a:Nat):lE s a<256:=by
 unfold lE;cases s.data.toList[a]? with
 | none=>simp
 | some b=>simpa using b.toNat_lt
def nt (s:N)(a:Nat):Nat->Nat
 | 0=>0
 | k+1=>nt s a k+lE s (a+k)*256 ^ k
theorem sM (s:N)(a:Nat):∀ k,nt s a k<256 ^ k
 | 0=>by simp[nt]
 | k+1=>by
  have h1:=sM s a k;have h2:=CI s (a+k);have h3:lE s (a+k)*256 ^ k<=255*256 ^ k:=Sk _ (by omega);have h4:(256:Nat) ^ (k+1)=256*256 ^ k:=by rw[Nat.pow_succ,UM]
  simp only[nt];omega
def qG (w:Nat)(sg:Bool)(u:Nat):Int:=if sg=M/\2 ^ (8*w-1)<=u then (u:Int)-2 ^ (8*w) else u
structure s7 where
 code:Int
 arg:Int
 n:Nat
 ok:Bool
def jh (s:N)(a:Int):s7:=
 if 0<=a/\a<s.size/\lE s a.toNat<=17/\a.toNat+1+(iv (lE s a.toNat:Nat)).1<=s.size then
  ⟨(lE s a.toNat:Nat),qG (iv (lE s a.toNat:Nat)).1 (iv (lE s a.toNat:Nat)).2 (nt s (a.toNat+1) (iv (lE s a.toNat:Nat)).1),(iv (lE s a.toNat:Nat)).1+1,M⟩
 else ⟨0,0,0,I⟩
theorem wM {a:Int} (h:¬ (0<=a/\a<s.size/\lE s a.toNat<=17/\a.toNat+1+(iv (lE s a.toNat:Nat)).1<=s.size)):jh s a=⟨0,0,0,I⟩:=QZ h
theorem Cw {w:Nat} {sg:Bool} (h1:a<s.size)(h2:lE s a=c)(h3:c<=17)(h4:iv (c:Int)=(w,sg))(h5:a+1+w<=s.size):jh s (a:Int)=⟨c,qG w sg (nt s (a+1) w),w+1,M⟩:=by
 unfold jh;rw[Ra,h2,h4,Q5 ⟨by omega,by omega,h3,h5⟩]
theorem wN {a:Int} {r:s7} (h:jh s a=r)(hk:r.ok=M):0<=a/\1<=r.n/\r.n<=5/\a+r.n<=s.size/\0<=r.code/\r.code<=17:=by
 subst h;unfold jh at hk |-;split
 ·rename_i h
  have:=rr (lE s a.toNat:Nat);simp only;omega
 ·rename_i h
  rw[QZ h] at hk;cases hk
theorem E6 {a:Int} {r:s7} (h:jh s a=r)(hk:r.ok=I):r=⟨0,0,0,I⟩:=by
 subst h;unfold jh at hk |-;split
 ·rename_i h
  rw[Q5 h] at hk;cases hk
 ·rfl
theorem Px (w:Nat)(sg:Bool)(u:Nat)(hw:w<=4)(hu:u<256 ^ w) : -2147483648<=qG w sg u/\qG w sg u<=4294967295:=by
 unfold qG;have h4:w=0∨w=1∨w=2∨w=3∨w=4:=by omega
 split
 ·rename_i h
  obtain⟨_,h⟩:=h;rcases h4 with rfl | rfl | rfl | rfl | rfl <;> simp at h hu |- <;> omega
 ·rcases h4 with rfl | rfl | rfl | rfl | rfl <;> simp at hu |- <;> omega
theorem Cv {a:Int} {r:s7} (h:jh s a=r) : -2147483648<=r.arg/\r.arg<=4294967295:=by
 subst h;unfold jh;split
 ·exact Px _ _ _ (rr _) (sM _ _ _)
 ·simp
theorem Nq {a:Int} {r:s7} (h:jh s a=r):(r.code=1∨r.code=2∨r.code=3∨r.code=4∨r.code=10∨r.code=11->-32768<=r.arg/\r.arg<=32767)/\(r.code=16->0<=r.arg/\r.arg<=65535)/\(r.code=12∨r.code=13∨r.code=14∨r.code=15->0<=r.arg/\r.arg<=255):=by
 subst h;unfold jh;split
 ·simp only
  refine⟨fun hc=>?_,fun hc=>?_,fun hc=>?_⟩
  ·have e:iv (lE s a.toNat:Nat)=(2,M):=by
    unfold iv;rw[QZ (by omega),Q5 hc]
   rw[e];have:=sM s (a.toNat+1) 2;simp only at this |-;unfold qG;split <;> simp at this |- <;> (try (rename_i hh;simp at hh)) <;> omega
  ·have e:iv (lE s a.toNat:Nat)=(2,I):=by
    unfold iv;rw[QZ (by omega),QZ (by omega),Q5 hc]
   rw[e];have:=sM s (a.toNat+1) 2;simp[qG] at this |-;omega
  ·have e:iv (lE s a.toNat:Nat)=(1,I):=by
    unfold iv;rw[QZ (by omega),QZ (by omega),QZ (by omega),Q5 hc]
   rw[e];have:=sM s (a.toNat+1) 1;simp[qG] at this |-;omega
 ·simp
def oX (s:N):Nat->Nat->Bool
 | 0,a=>decide (s.size<=a)
 | f+1,a=>if a<s.size then (if (jh s (a:Int)).ok=M then oX s f (a+(jh s (a:Int)).n) else I) else M
def kS (s:N)(a:Nat):Bool:=oX s (s.size-a) a
theorem M5 (s:N):∀(f a:Nat),s.size-a<=f->oX s f a=oX s (s.size-a) a:=by
 intro f;induction f with
 | zero=>intro a h;rw[show s.size-a=0 from by omega]
 | succ f ih=>
  intro a h;by_cases ha:a<s.size
  ·obtain⟨k,hk⟩:∃ k,s.size-a=k+1:=⟨s.size-a-1,by omega⟩
   rw[hk];simp only[oX,Q5 ha];split
   ·rename_i hok
    have:=wN (s:=s) (a:=(a:Int)) rfl hok;rw[ih _ (by omega)]
    have a1:∀ g,s.size-(a+(jh s (a:Int)).n)<=g->g<=f->oX s g (a+(jh s (a:Int)).n)=oX s (s.size-(a+(jh s (a:Int)).n)) (a+(jh s (a:Int)).n):=by
     intro g hg a0;by_cases e:g=f
     ·subst e;exact ih _ hg
     ·obtain⟨d,hd⟩:∃ d,g=(s.size-(a+(jh s (a:Int)).n))+d:=⟨_,(Nat.add_sub_cancel' hg).symm⟩
      clear a0 e;subst hd;generalize (a+(jh s (a:Int)).n)=b;clear ih h ha hk hok this hg
      suffices h:∀(m d b:Nat),s.size-b<=m->oX s (m+d) b=oX s m b by exact h _ d b (Q8 _)
      intro m;induction m with
      | zero=>
       intro d b hb;cases d with
       | zero=>rfl
       | succ d=>simp only[Rk,oX];rw[QZ (by omega)];simp;omega
      | succ m im=>
       intro d b hb;rw[Nat.add_right_comm];simp only[oX];split
       ·split
        ·rename_i h1 h2
         have:=wN (s:=s) (a:=(b:Int)) rfl h2;exact im _ _ (by omega)
        ·rfl
       ·rfl
    exact(a1 k (by omega) (by omega)).symm
   ·rfl
  ·rw[show s.size-a=0 from by omega]
   simp only[oX,QZ ha];simp;omega
theorem DU (h:s.size<=a):kS s a=M:=by
 unfold kS;rw[show s.size-a=0 from by omega];simp[oX,h]
theorem Gp (h:a<s.size)(hk:(jh s (a:Int)).ok=I):kS s a=I:=by
 unfold kS;obtain⟨k,a0⟩:∃ k,s.size-a=k+1:=⟨s.size-a-1,by omega⟩
 rw[a0];simp[oX,h,hk]
theorem Ce (h:a<s.size)(hk:(jh s (a:Int)).ok=M):kS s a=kS s (a+(jh s (a:Int)).n):=by
 have:=wN (s:=s) (a:=(a:Int)) rfl hk;unfold kS;obtain⟨k,a0⟩:∃ k,s.size-a=k+1:=⟨s.size-a-1,by omega⟩
 rw[a0];simp only[oX,Q5 h,Q5 hk];exact M5 _ _ _ (by omega)
theorem zku (c:Int)(w:U):Rh prog 172 #[J C c] w fun e w'=>e=.returned (.tuple #[J C ((iv c).1:Int),H (iv c).2])/\w=w':=by
 go_enter func172,ntmps172;go_wp2
 all_goals
  go_ret2
  refine⟨?_,rfl⟩
  simp_all [iv]
theorem zdY (c:Int)(w:U):Rh prog 180 #[J C c] w fun e w'=>e=.returned (.tuple #[J C ((iv c).1:Int),H (iv c).2])/\w=w':=by
 go_enter func180,ntmps180;go_wp2
 all_goals
  go_ret2
  refine⟨?_,rfl⟩
  simp_all [iv]
theorem yV (c:Int):zL c=if fT c 0 17=M then ((iv c).1:Int)+1 else 0:=rfl
theorem zli (c:Int)(w:U):Rh prog 171 #[J C c] w fun e w'=>e=.returned (J C (zL c))/\w=w':=by
 have a0:=rr c;obtain⟨n,sg,hw⟩:∃ n sg,iv c=(n,sg):=⟨_,_,rfl⟩
 rw[hw] at a0;have HW:=fh hw;cases hb:fT c 0 17
 ·have HS:=fh (show zL c=0 from by simp[zL,hb])
  have HB:=fh hb;clear hb hw;go_enter func171,ntmps171;go_wp2_with(go_at_call 38;(with_reducible refine(lP _ _ _ _).mono ?_);rw[HB.out];rintro e w1 ⟨rfl,rfl⟩);go_ret;exact⟨nN HS.out.symm,rfl⟩
 ·have HS:=fh (show zL c=(n:Int)+1 from by simp[zL,hb,hw])
  have HB:=fh hb;clear hb hw;go_enter func171,ntmps171
  go_wp2_with(first
   | (go_at_call 38;(with_reducible refine(lP _ _ _ _).mono ?_);rw[HB.out];rintro e w1 ⟨rfl,rfl⟩)
   | (go_at_call 172;(with_reducible refine(zku _ _).mono ?_);rw[HW.out];rintro e w1 ⟨rfl,rfl⟩))
  go_ret;exact⟨nN HS.out.symm,rfl⟩
theorem zfT (c:Int)(w:U):Rh prog 167 #[J C c] w fun e w'=>e=.returned (J C (zL c))/\w=w':=by
 have a0:=rr c;obtain⟨n,sg,hw⟩:∃ n sg,iv c=(n,sg):=⟨_,_,rfl⟩
 rw[hw] at a0;have HW:=fh hw;cases hb:fT c 0 17
 ·have HS:=fh (show zL c=0 from by simp[zL,hb])
  have HB:=fh hb;clear hb hw;go_enter func167,ntmps167;go_wp2_with(go_at_call 43;(with_reducible refine(gY _ _ _ _).mono ?_);rw[HB.out];rintro e w1 ⟨rfl,rfl⟩);go_ret;exact⟨nN HS.out.symm,rfl⟩
 ·have HS:=fh (show zL c=1+(n:Int) from by simp[zL,hb,hw,Int.add_comm])
  have HB:=fh hb;clear hb hw;go_enter func167,ntmps167
  go_wp2_with(first
   | (go_at_call 43;(with_reducible refine(gY _ _ _ _).mono ?_);rw[HB.out];rintro e w1 ⟨rfl,rfl⟩)
   | (go_at_call 180;(with_reducible refine(zdY _ _).mono ?_);rw[HW.out];rintro e w1 ⟨rfl,rfl⟩))
  go_ret;exact⟨nN HS.out.symm,rfl⟩
end Go.Proofs.YthgbglbaemelhaaGreat
