/-
  PART.
-/
import Derived.Test.YtiihkapmggfjkaaGreatM0LawMakeDebug
import Derived.Test.YtiihkapmggfjkaaGreatProg
import Derived.KernelRfl
set_option linter.unusedVariables false
set_option linter.unusedSimpArgs false
set_option maxRecDepth 100000
set_option maxHeartbeats 8000000
namespace Go.Proofs.YtiihkapmggfjkaaGreat
open Value renaming slice->J,int->F,bool->X,string->G
open IntKind renaming i64->I
open Option renaming none->V,some->H
open Bool renaming true->M
open Go renaming World->N,Value->LA
open World renaming cell?->Lg
open Go.RowKit Go.WideShapes Go.ChangeShapes
variable {B b0 o:Nat}{S:Q Nat}{W w:N}{cs:Q LA}{e:TypeId}{v:LA}
def nV (P:Program)(t:TypeId){α:Type}(T:Ty α):Prop:=
 ∀(K6:Type) (enc:TypeId × LA->K6) (W:N) (spare:Nat->Bool) (held:Bool) (fuel:Nat) (cs:Q LA) (x:DataW K6 × Q MemPlace),
  DataW.trod enc P W 0 spare held fuel t cs=H x->∃ a,T.R W W.heap.size cs a
theorem we {x:Int} (h:(Lit.int I x).wf=M) : -9223372036854775808<=x/\x<=9223372036854775807:=by
 simp[Lit.wf,IntKind.min,IntKind.max,IntKind.signed,IntKind.bits] at h;exact h
section
variable {P:Program} {t:TypeId}
theorem uW (ht:P.underlying t=H (.int I)):nV P t zF:=by
 intro K6 a3 W a0 a2 a1 cs x h;obtain⟨n,rfl,_,hw⟩:=DataW.trod_int ht h;exact⟨n,rfl,(we hw).1,(we hw).2⟩
theorem CW (ht:P.underlying t=H .bool):nV P t rr:=by
 intro K6 a3 W a0 a2 a1 cs x h;obtain⟨b,rfl,_⟩:=DataW.trod_bool ht h;exact⟨b,rfl⟩
theorem yx (ht:P.underlying t=H .string):nV P t iH:=by
 intro K6 a3 W a0 a2 a1 cs x h;obtain⟨s,rfl,_,hs⟩:=DataW.trod_string ht h;exact⟨s,rfl,by simpa[maxLen] using hs⟩
theorem yK {α β:Type} {T:Ty α} (f:β->α)(g:α->β)(h:∀ a,f (g a)=a)(ho:nV P t T):nV P t (T.via f):=by
 intro K6 a3 W a0 a2 a1 cs x hx;obtain⟨a,ha⟩:=ho _ _ _ _ _ _ _ _ hx;exact⟨g a,by show T.R _ _ _ (f (g a));rw[h];exact ha⟩
theorem zt {α:Type} {T:Ty α} {e':TypeId} (ht:P.underlying t=H (.slice e))(hs:P.cellsOf e=T.size)(h0:0<T.size)(he:nV P e T):nV P t (T.sl e'):=by
 intro K6 ao W ab aj ae cs x h;rcases Go.Deep.open_slice ht h with⟨rfl,_⟩ | ⟨a,len,ac,m,n,Lf,Pl,rfl,_,hl,hc,hm,_,hi⟩
 ·exact⟨[],V,0,rfl,Lz _,Lv _,fun _=>rfl,fun hp=>by simp at hp⟩
 ·have ap:len<=m:=by rw[hm];split <;> omega
  have ai:∀ n',n'<=len->∃ xs:Q α,xs.length=n'/\∀ i y,xs[i]?=H y->∃ ec,T.R W W.heap.size ec y/\∀(j:Nat) (u:LA),ec[j]?=H u->W.cell? ((a.add (i*T.size)).add j)=H u:=by
   intro n';induction n' with
   | zero=>exact fun _=>⟨[],rfl,fun i y hy=>by simp at hy⟩
   | succ n' ih=>
    intro hn;obtain⟨xs,a4,a5⟩:=ih (by omega);obtain⟨ec,ah,an⟩:=hi n' (by omega);obtain⟨y,hy⟩:=he _ _ _ _ _ _ _ _ an;refine⟨xs++[y],by simp[a4],fun i z hz=>?_⟩;rw[OB] at hz;split at hz
    ·exact a5 i z hz
    ·rename_i hnl
     have al:=(Lh.1 hz).1;simp at al;have ak:i=n':=by omega
     subst ak;rw[a4,Mq] at hz;simp at hz;subst hz;refine⟨ec,hy,fun j u hu=>?_⟩;obtain⟨_,a7,a9⟩:=World.cells?_some ah;rw[hs] at a9 a7;rw[a9 j (by have:=(Lh.1 hu).1;omega),hu]
  obtain⟨xs,a4,a5⟩:=ai len (Lz _);subst a4;refine⟨xs,H a,ac,rfl,hl,by simpa[maxLen] using hc,fun h=>by simp at h,fun hp=>?_⟩;obtain⟨ec,hR,a1⟩:=a5 0 xs[0] (Lo hp);have a6:0<ec.length:=by rw[T.kz hR];exact h0
  have af:=a1 0 ec[0] (Lo a6);obtain⟨g,aa,a3⟩:=a;have a8:Lg W ⟨g,aa,a3⟩=H ec[0]:=by simpa[Addr.add] using af
  have a2:a3=V:=World.cell?_spot a8;subst a2;have am:=MM W _ a8;refine⟨g,aa,rfl,am,fun i y hy=>?_⟩;obtain⟨ad,ag,a0⟩:=a5 i y hy;refine⟨ad,ag,fun j u hu=>?_⟩;have:=a0 j u hu;rw[Oi,Oi] at this;exact this
def vz (P:Program)(fs:Q Field)(o:Nat){α:Type}(T:Ty α):Prop:=
 ∀(K6:Type) (enc:TypeId × LA->K6) (W:N) (spare:Nat->Bool) (held:Bool) (fuel:Nat) (cs:Q LA),cs.length=o+T.size->
  (∀ f∈fs,∃ y,DataW.trod enc P W 0 spare held fuel f.type ((cs.drop f.offset).take (P.cellsOf f.type))=H y)->∃ a,T.R W W.heap.size (cs.drop o) a
theorem Au {f:Field} {α:Type} {T:Ty α} (ho:f.offset=o)(hs:P.cellsOf f.type=T.size)(h:nV P f.type T):vz P [f] o T:=by
 intro K6 a3 W a0 a2 a1 cs hl hf;obtain⟨y,hy⟩:=hf f (by simp);rw[ho,hs,MA (by simp;omega)] at hy;exact h _ _ _ _ _ _ _ _ hy
theorem qR {f:Field} {fs:Q Field} {α β:Type} {T:Ty α} {K8:Ty β} (ho:f.offset=o)(hs:P.cellsOf f.type=T.size)(h:nV P f.type T)(hr:vz P fs (o+T.size) K8):vz P (f::fs) o (T.prod K8):=by
 intro K6 a3 W a0 a2 a1 cs hl hf;obtain⟨y,hy⟩:=hf f (by simp);rw[ho,hs] at hy;obtain⟨a,ha⟩:=h _ _ _ _ _ _ _ _ hy;obtain⟨b,hb⟩:=hr _ a3 W a0 a2 a1 cs (by rw[hl];simp[Ty.prod];omega) (fun g hg=>hf g (by simp[hg]));refine⟨(a,b),(cs.drop o).take T.size,cs.drop (o+T.size),?_,ha,hb⟩;rw[<-Nh];exact(List.take_append_drop _ _).symm
theorem xB {α:Type} {T:Ty α} {fs:Q Field} (ht:P.underlying t=H (.struct fs.toArray))(hs:P.cellsOf t=T.size)(h:vz P fs 0 T):nV P t T:=by
 intro K6 a3 W a0 a1 a4 cs x hx;obtain⟨xs,n,_,_,a2,a6,hf⟩:=DataW.trod_struct ht hx
 obtain⟨a,ha⟩:=h _ a3 W a0 a1 n cs (by rw[a2,hs];omega) (fun f hm=>by
  obtain⟨i,hi,he⟩:=List.getElem_of_mem hm;have h1:=hf i f (by simp[Lo hi,he]);have a5:i<xs.length:=by rw[a6];simpa using hi
  exact⟨_,h1.trans (Lo a5)⟩)
 exact⟨a,by simpa using ha⟩
theorem DF {K6:Type} {enc:TypeId × LA->K6} {spare:Nat->Bool} {held:Bool} {d:DataW K6} {p:Q MemPlace} {α:Type} {T:Ty α} (ho:nV P t T)(h:DataW.Trod enc P W 0 spare held t v d p):∃ a,T.R W W.heap.size v.cells.toList a:=by
 obtain⟨a0,hf⟩:=h;exact ho _ _ _ _ _ _ _ _ hf
theorem Jz {r:Reach} {fs:Array Field} (ht:P.underlying t=H (.struct fs))(hv:Value.okWide P W r b0 t v):∃ cs,v=.agg cs:=by
 obtain⟨cs,h,_⟩:=okWide_struct ht hv;exact⟨cs,h⟩
theorem Iq {r:Reach} (ht:P.underlying t=H (.slice e))(hv:Value.okWide P W r b0 t v):v.cells.toList = [v]:=by
 obtain⟨a,l,c,rfl⟩:=okWide_slice ht hv;rfl
end
open Go.RowKit
structure gk where
 Name:D
 Start:Int
 il:Int
 deriving DecidableEq
def jU:Ty gk:=(iH.prod (zF.prod zF)).via fun x=>(x.Name,x.Start,x.il)
theorem I1 {x:gk} (h:jU.R w B cs x):cs = [G x.Name,F I x.Start,F I x.il]/\x.Name.size<=9223372036854775807/\fV x.Start/\fV x.il:=by
 obtain⟨_,_,rfl,⟨rfl,a2⟩,⟨_,_,rfl,⟨rfl,a0,a1⟩,⟨rfl,a3,a4⟩⟩⟩:=h;exact⟨rfl,a2,⟨a0,a1⟩,⟨a3,a4⟩⟩
theorem B5 {x:gk} (h0:x.Name.size<=9223372036854775807)(h1:fV x.Start)(h2:fV x.il):jU.R w B [G x.Name,F I x.Start,F I x.il] x:=by
 exact⟨[G x.Name],[F I x.Start,F I x.il],rfl,⟨rfl,h0⟩,⟨[F I x.Start],[F I x.il],rfl,⟨rfl,h1.1,h1.2⟩,⟨rfl,h2.1,h2.2⟩⟩⟩
theorem Dd {x:gk} (h:jU.O w cs x S):cs = [G x.Name,F I x.Start,F I x.il]/\S = []/\x.Name.size<=9223372036854775807/\fV x.Start/\fV x.il:=by
 obtain⟨_,_,_,_,rfl,rfl,⟨rfl,a2,rfl⟩,⟨_,_,_,_,rfl,rfl,⟨rfl,a0,a1,rfl⟩,⟨rfl,a3,a4,rfl⟩⟩⟩:=h;exact⟨rfl,rfl,a2,⟨a0,a1⟩,⟨a3,a4⟩⟩
theorem GM {x:gk} (h0:x.Name.size<=9223372036854775807)(h1:fV x.Start)(h2:fV x.il):jU.O w [G x.Name,F I x.Start,F I x.il] x ([]):=by
 exact⟨[G x.Name],[F I x.Start,F I x.il],[],([]++[]),rfl,rfl,⟨rfl,h0,rfl⟩,⟨[F I x.Start],[F I x.il],[],[],rfl,rfl,⟨rfl,h1.1,h1.2,rfl⟩,⟨rfl,h2.1,h2.2,rfl⟩⟩⟩
structure jL where
 Code:D
 fM:Q gk
 deriving DecidableEq
structure gZ where
 Start:Int
 End:Int
 Frame:Bool
 fK:Int
 deriving DecidableEq
def jJ:Ty gZ:=(zF.prod (zF.prod (rr.prod zF))).via fun x=>(x.Start,x.End,x.Frame,x.fK)
theorem J5 {x:gZ} (h:jJ.R w B cs x):cs = [F I x.Start,F I x.End,X x.Frame,F I x.fK]/\fV x.Start/\fV x.End/\fV x.fK:=by
 obtain⟨_,_,rfl,⟨rfl,a1,a3⟩,⟨_,_,rfl,⟨rfl,a4,a5⟩,⟨_,_,rfl,rfl,⟨rfl,a0,a2⟩⟩⟩⟩:=h;exact⟨rfl,⟨a1,a3⟩,⟨a4,a5⟩,⟨a0,a2⟩⟩
theorem qV {x:gZ} (h0:fV x.Start)(h1:fV x.End)(h2:fV x.fK):jJ.R w B [F I x.Start,F I x.End,X x.Frame,F I x.fK] x:=by
 exact⟨[F I x.Start],[F I x.End,X x.Frame,F I x.fK],rfl,⟨rfl,h0.1,h0.2⟩,⟨[F I x.End],[X x.Frame,F I x.fK],rfl,⟨rfl,h1.1,h1.2⟩,⟨[X x.Frame],[F I x.fK],rfl,rfl,⟨rfl,h2.1,h2.2⟩⟩⟩⟩
theorem En {x:gZ} (h:jJ.O w cs x S):cs = [F I x.Start,F I x.End,X x.Frame,F I x.fK]/\S = []/\fV x.Start/\fV x.End/\fV x.fK:=by
 obtain⟨_,_,_,_,rfl,rfl,⟨rfl,a1,a3,rfl⟩,⟨_,_,_,_,rfl,rfl,⟨rfl,a4,a5,rfl⟩,⟨_,_,_,_,rfl,rfl,⟨rfl,rfl⟩,⟨rfl,a0,a2,rfl⟩⟩⟩⟩:=h;exact⟨rfl,rfl,⟨a1,a3⟩,⟨a4,a5⟩,⟨a0,a2⟩⟩
theorem I0 {x:gZ} (h0:fV x.Start)(h1:fV x.End)(h2:fV x.fK):jJ.O w [F I x.Start,F I x.End,X x.Frame,F I x.fK] x ([]):=by
 exact⟨[F I x.Start],[F I x.End,X x.Frame,F I x.fK],[],([]++([]++[])),rfl,rfl,⟨rfl,h0.1,h0.2,rfl⟩,⟨[F I x.End],[X x.Frame,F I x.fK],[],([]++[]),rfl,rfl,⟨rfl,h1.1,h1.2,rfl⟩,⟨[X x.Frame],[F I x.fK],[],[],rfl,rfl,⟨rfl,rfl⟩,⟨rfl,h2.1,h2.2,rfl⟩⟩⟩⟩
structure jc where
 Offset:Int
 fN:Int
 Start:Bool
 deriving DecidableEq
def kd:Ty jc:=(zF.prod (zF.prod rr)).via fun x=>(x.Offset,x.fN,x.Start)
theorem Kx {x:jc} (h:kd.R w B cs x):cs = [F I x.Offset,F I x.fN,X x.Start]/\fV x.Offset/\fV x.fN:=by
 obtain⟨_,_,rfl,⟨rfl,a0,a1⟩,⟨_,_,rfl,⟨rfl,a2,a3⟩,rfl⟩⟩:=h;exact⟨rfl,⟨a0,a1⟩,⟨a2,a3⟩⟩
theorem Jq {x:jc} (h0:fV x.Offset)(h1:fV x.fN):kd.R w B [F I x.Offset,F I x.fN,X x.Start] x:=by
 exact⟨[F I x.Offset],[F I x.fN,X x.Start],rfl,⟨rfl,h0.1,h0.2⟩,⟨[F I x.fN],[X x.Start],rfl,⟨rfl,h1.1,h1.2⟩,rfl⟩⟩
theorem Kw {x:jc} (h:kd.O w cs x S):cs = [F I x.Offset,F I x.fN,X x.Start]/\S = []/\fV x.Offset/\fV x.fN:=by
 obtain⟨_,_,_,_,rfl,rfl,⟨rfl,a0,a1,rfl⟩,⟨_,_,_,_,rfl,rfl,⟨rfl,a2,a3,rfl⟩,⟨rfl,rfl⟩⟩⟩:=h;exact⟨rfl,rfl,⟨a0,a1⟩,⟨a2,a3⟩⟩
structure gJ where
 Start:Int
 End:Int
 Level:Int
 fN:Int
 Name:D
 deriving DecidableEq
def jH:Ty gJ:=(zF.prod (zF.prod (zF.prod (zF.prod iH)))).via fun x=>(x.Start,x.End,x.Level,x.fN,x.Name)
theorem IY {x:gJ} (h:jH.R w B cs x):cs = [F I x.Start,F I x.End,F I x.Level,F I x.fN,G x.Name]/\fV x.Start/\fV x.End/\fV x.Level/\fV x.fN/\x.Name.size<=9223372036854775807:=by
 obtain⟨_,_,rfl,⟨rfl,a1,a3⟩,⟨_,_,rfl,⟨rfl,a7,a8⟩,⟨_,_,rfl,⟨rfl,a0,a2⟩,⟨_,_,rfl,⟨rfl,a4,a6⟩,⟨rfl,a5⟩⟩⟩⟩⟩:=h;exact⟨rfl,⟨a1,a3⟩,⟨a7,a8⟩,⟨a0,a2⟩,⟨a4,a6⟩,a5⟩
theorem GJ {x:gJ} (h0:fV x.Start)(h1:fV x.End)(h2:fV x.Level)(h3:fV x.fN)(h4:x.Name.size<=9223372036854775807):jH.R w B [F I x.Start,F I x.End,F I x.Level,F I x.fN,G x.Name] x:=by
 exact⟨[F I x.Start],[F I x.End,F I x.Level,F I x.fN,G x.Name],rfl,⟨rfl,h0.1,h0.2⟩,⟨[F I x.End],[F I x.Level,F I x.fN,G x.Name],rfl,⟨rfl,h1.1,h1.2⟩,⟨[F I x.Level],[F I x.fN,G x.Name],rfl,⟨rfl,h2.1,h2.2⟩,⟨[F I x.fN],[G x.Name],rfl,⟨rfl,h3.1,h3.2⟩,⟨rfl,h4⟩⟩⟩⟩⟩
theorem IX {x:gJ} (h:jH.O w cs x S):cs = [F I x.Start,F I x.End,F I x.Level,F I x.fN,G x.Name]/\S = []/\fV x.Start/\fV x.End/\fV x.Level/\fV x.fN/\x.Name.size<=9223372036854775807:=by
 obtain⟨_,_,_,_,rfl,rfl,⟨rfl,a1,a3,rfl⟩,⟨_,_,_,_,rfl,rfl,⟨rfl,a7,a8,rfl⟩,⟨_,_,_,_,rfl,rfl,⟨rfl,a0,a2,rfl⟩,⟨_,_,_,_,rfl,rfl,⟨rfl,a4,a6,rfl⟩,⟨rfl,a5,rfl⟩⟩⟩⟩⟩:=h;exact⟨rfl,rfl,⟨a1,a3⟩,⟨a7,a8⟩,⟨a0,a2⟩,⟨a4,a6⟩,a5⟩
structure iT where
 Id:Int
 fM:Q gk
 gB:Q gZ
 Rows:Q jc
 fY:Q gJ
 deriving DecidableEq
def oE:Ty iT:=(zF.prod ((jU.sl 110).prod ((jJ.sl 137).prod ((kd.sl 139).prod (jH.sl 143))))).via fun x=>(x.Id,x.fM,x.gB,x.Rows,x.fY)
theorem Jo {x:iT} (h:oE.R w B cs x):∃ A0 c0 A1 c1 A2 c2 A3 c3,cs = [F I x.Id,J A0 x.fM.length c0,J A1 x.gB.length c1,J A2 x.Rows.length c2,J A3 x.fY.length c3]/\fV x.Id/\(jU.sl 110).R w B [J A0 x.fM.length c0] x.fM/\(jJ.sl 137).R w B [J A1 x.gB.length c1] x.gB/\(kd.sl 139).R w B [J A2 x.Rows.length c2] x.Rows/\(jH.sl 143).R w B [J A3 x.fY.length c3] x.fY:=by
 obtain⟨_,_,rfl,⟨rfl,a4,a5⟩,⟨_,_,rfl,a1,⟨_,_,rfl,a2,⟨_,_,rfl,a3,a0⟩⟩⟩⟩:=h;obtain⟨A0,c0,rfl,_⟩:=id a1;obtain⟨A1,c1,rfl,_⟩:=id a2;obtain⟨A2,c2,rfl,_⟩:=id a3;obtain⟨A3,c3,rfl,_⟩:=id a0;exact⟨A0,c0,A1,c1,A2,c2,A3,c3,rfl,⟨a4,a5⟩,a1,a2,a3,a0⟩
theorem DS {x:iT} (h:oE.O w cs x S):∃ A0 c0 S0 A1 c1 S1 A2 c2 S2 A3 c3 S3,cs = [F I x.Id,J A0 x.fM.length c0,J A1 x.gB.length c1,J A2 x.Rows.length c2,J A3 x.fY.length c3]/\S=S0++S1++S2++S3/\fV x.Id/\(jU.sl 110).O w [J A0 x.fM.length c0] x.fM S0/\(jJ.sl 137).O w [J A1 x.gB.length c1] x.gB S1/\(kd.sl 139).O w [J A2 x.Rows.length c2] x.Rows S2/\(jH.sl 143).O w [J A3 x.fY.length c3] x.fY S3:=by
 obtain⟨_,_,_,_,rfl,rfl,⟨rfl,a4,a5,rfl⟩,⟨_,_,_,_,rfl,rfl,a1,⟨_,_,_,_,rfl,rfl,a2,⟨_,_,_,_,rfl,rfl,a3,a0⟩⟩⟩⟩:=h;obtain⟨A0,c0,_,_,rfl,_⟩:=id a1;obtain⟨A1,c1,_,_,rfl,_⟩:=id a2;obtain⟨A2,c2,_,_,rfl,_⟩:=id a3;obtain⟨A3,c3,_,_,rfl,_⟩:=id a0;exact⟨A0,c0,_,A1,c1,_,A2,c2,_,A3,c3,_,rfl,by simp,⟨a4,a5⟩,a1,a2,a3,a0⟩
end Go.Proofs.YtiihkapmggfjkaaGreat
