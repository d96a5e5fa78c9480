/-
  PART.
-/
import Derived.Test.YthgbglbaemelhaaGreatM8LawSlices
import Derived.Test.YthgbglbaemelhaaGreatM11LawSlices
set_option linter.unusedVariables false
set_option linter.unusedSimpArgs false
set_option maxRecDepth 100000
set_option maxHeartbeats 8000000
namespace Go.Proofs.YthgbglbaemelhaaGreat
open Option renaming none->D,some->Z
open Bool renaming false->I,true->M
open UInt8 renaming ofNat->SQ
open Go.RowKit
def l5:Q fP->Int->Q Int
 | [],a=>[a]
 | x::r,a=>a::l5 r (a+zL x.Op.Code)
def mG (gN:Q Int)(k:Nat)(x:fP):fL:=
 ⟨gN.getD k 0,if x.Op.Code=10∨x.Op.Code=11 then { x with Op:=⟨x.Op.Code,gN.getD x.Op.Arg.toNat 0-gN.getD (k+1) 0⟩ } else x⟩
def qS (gN:Q Int):Q fP->Nat->Q fL
 | [],_=>[]
 | x::r,k=>mG gN k x::qS gN r (k+1)
def mh:Q fP->Int->Int
 | [],a=>a
 | x::r,a=>mh r (a+zL x.Op.Code)
def lJ (items:Q fP)(a:Int):Q fL:=qS (l5 items a) items 0
def ni (b:fV)(f image:Int):Bool:=if b.Split=M then decide (f % 2=image) else decide (image=0)
def mR (p:Q fv)(b:fV)(image:Int):Nat->Nat->Int->Q fL
 | 0,_,_=>[]
 | n+1,f,a=>if ni b f image=M then lJ (ki p b f) a++mR p b image n (f+1) (mh (ki p b f) a) else mR p b image n (f+1) a
def jV (p:Q fv)(b:fV)(image:Int):Q fL:=
 if zv p=M/\jM b=M/\fT image 0 1=M then mR p b image (zp p).length 0 0 else []
def kB (x:lY):Bool:=fT x.Code 0 17 && (if (iv x.Code).2=M then fT x.Arg (-(2 ^ (8*(iv x.Code).1-1))) (2 ^ (8*(iv x.Code).1-1)-1) else fT x.Arg 0 (2 ^ (8*(iv x.Code).1)-1))
def pB (n:Int):UInt8:=SQ (n % 256).toNat
def pM (a:Int):Nat->Nat->Q UInt8
 | 0,_=>[]
 | n+1,k=>pB (a / 2 ^ (8*k))::pM a n (k+1)
def jR (x:lY):N:=if kB x=M then ⟨(pB x.Code::pM x.Arg (iv x.Code).1 0).toArray⟩ else emp
def mc (p:Q fv)(k:Int):N:=((p[k.toNat]?).map fv.Name).getD emp
def pO (syms:Q fC)(n:Int):Q fC:=match syms.getLast? with
 | none=>syms
 | some x=>syms.dropLast++[{ x with gK:=n-x.Start }]
def mU (p:Q fv)(i:gu)(x:fL):gu:=
 let syms:=if x.Item.Op.Code=13∨x.Item.Op.Code=15/\kM p x.Item.fH=0 then i.fm++[⟨mc p x.Item.fH,x.Offset,0⟩] else i.fm
 let code:=i.Code++jR x.Item.Op
 ⟨code,pO syms code.size⟩
def jq (p:Q fv)(b:fV)(image:Int):gu:=(jV p b image).foldl (mU p) ⟨emp,[]⟩
def pT (out:Q gJ)(x:fL):Q gJ:=
 let r:gJ:=⟨x.Offset,x.Offset+zL x.Item.Op.Code,x.Item.fF,x.Item.fE⟩
 match out.getLast? with
 | none=>out++[r]
 | some q=>if q.End=r.Start/\q.Frame=r.Frame/\q.fE=r.fE then out.dropLast++[{ q with End:=r.End }] else out++[r]
def pY (l:Q fL):Bool:=l.all fun x=>fT x.Offset 0 1000000
def oN (l:Q fL):Q gJ:=if pY l=M then l.foldl pT [] else []
def qY:X fP->Q fL->Q ir
 | _,[]=>[]
 | q,x::r=>(match q with
  | some y=>if x.Item.Start=I/\y.Start=I/\y.fH=x.Item.fH then [] else [⟨x.Offset,x.Item.fH,x.Item.Start⟩]
  | none=>[⟨x.Offset,x.Item.fH,x.Item.Start⟩])++qY (Z x.Item) r
def rY (l:Q fL):Q ir:=qY D l
def vL:Q fv->Nat->N->N
 | [],_,s=>s
 | _,0,s=>s
 | x::r,n+1,s=>vL r n (if x.Kind=0 then x.Name else s)
def pg (p:Q fv)(k:Int):N:=if 0<=k/\k<p.length then vL p (k.toNat+1) emp else emp
def kP (p:Q fv)(x:fP)(level:Nat):N:=if level+1<x.fB.length then pg p (x.fB.getD (level+1) 0) else pg p x.fH
def pz (p:Q fv)(level:Nat)(chain:Q Int)(name:N)(y:fL):Bool:=
 decide (level<y.Item.fB.length) && (decide (y.Item.fB.take (level+1)=chain.take (level+1)) && decide (kP p y.Item level=name))
def nR (p:Q fv)(level:Nat):Nat->Q fL->Q fQ
 | 0,_=>[]
 | _+1,[]=>[]
 | n+1,x::r=>if level<x.Item.fB.length then
   let run:=r.takeWhile (pz p level x.Item.fB (kP p x.Item level))
   let last:=(x::run).getLast (by simp)
   ⟨x.Offset,last.Offset+zL last.Item.Op.Code,level,x.Item.fB.getD level 0,kP p x.Item level⟩::nR p level n (r.drop run.length)
  else nR p level n r
def sP (l:Q fL):Nat:=l.foldl (fun n x=>max n x.Item.fB.length) 0
def ma (p:Q fv)(l:Q fL):Q fQ:=
 if zv p=M/\pY l=M then (List.range (sP l)).flatMap fun level=>nR p level l.length l else []
def oH (p:Q fv)(b:fV)(image:Int):gE:=
 if zv p=M/\jM b=M/\fT image 0 1=M then
  ⟨mD (jq p b image).Code (jq p b image).Code.size,(jq p b image).fm,oN (jV p b image),rY (jV p b image),ma p (jV p b image)⟩
 else ⟨0,[],[],[],[]⟩
end Go.Proofs.YthgbglbaemelhaaGreat
