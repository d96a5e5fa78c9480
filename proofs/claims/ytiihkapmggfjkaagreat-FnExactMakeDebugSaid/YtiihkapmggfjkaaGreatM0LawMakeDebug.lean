/-
  PART.
-/
import Derived.WalkKit
import Derived.ProofKit
import Derived.OpenShut
import Derived.WalkSpells
import Derived.Below
import Derived.Carry
import Derived.ChangeOld
import Derived.Lib.Hide
import Derived.Maps.AppendAt
import Derived.Deep.AppendLies
import Derived.Deep.Draws
import Derived.Deep.Slices
import Derived.Deep.Fields
import Derived.Laws.OwnMore
import Derived.Laws.MakeOwn
import Derived.Laws.NewBlocks
import Derived.OwnWalk
set_option linter.unusedVariables false
set_option linter.unusedSimpArgs false
set_option maxRecDepth 100000
set_option maxHeartbeats 8000000
namespace Go.Proofs.YtiihkapmggfjkaaGreat
open Value renaming slice->J,int->F,bool->X,string->G,ownBlock->Nq
open IntKind renaming i64->I
open Option renaming none->V,some->H
open Obj renaming cells->C
open Bool renaming false->U,true->M
open Go renaming World->N,Value->LA,Addr->Mh,madeCells->Nm
open World renaming cell?->Lg,frozen?->LD,setCell->MH
open _root_.Int renaming toNat_natCast->Lw,natCast_mul->Ni
open List renaming length_cons->LJ,getElem_toArray->My
open RowKit renaming intOf->Ml
open _root_.Array renaming length_toList->Mx
open Go.RowKit
/-! ### the world with new blocks and draws -/
abbrev Q.{u}:=List.{u}
abbrev K.{u}:=Option.{u}
abbrev D:=ByteArray
abbrev Lh.{u}:=@List.getElem?_eq_some_iff.{u}
abbrev Li:=@Nat.lt_of_lt_of_le
abbrev Lj.{u}:=@List.length_append.{u}
abbrev Lk.{u}:=@beq_eq_false_iff_ne.{u}
abbrev Ln:=@Go.bodyPost_ret
abbrev Lo.{u}:=@List.getElem?_eq_getElem.{u}
abbrev Lp:=@Go.heap_alloc_new
abbrev Lr.{u}:=@List.mem_singleton.{u}
abbrev Ls:=@And.intro
abbrev Lt.{u}:=@if_neg.{u}
abbrev Lu.{u}:=@if_pos.{u}
abbrev Lv:=@Nat.zero_le
abbrev Lz:=@Nat.le_refl
abbrev LC:=@Bool.and_eq_true
abbrev LG.{u}:=@List.mem_append.{u}
abbrev LH:=@Bool.eq_false_or_eq_true
abbrev LI.{u}:=@List.drop_eq_getElem_cons.{u}
abbrev LK:=@decide_eq_false
abbrev LM.{u}:=@beq_iff_eq.{u}
abbrev LN:=@decide_eq_true
abbrev LO:=@Nat.le_trans
abbrev LP.{u}:=@List.mem_of_getElem?.{u}
abbrev LQ:=@decide_eq_true_eq
abbrev LS.{u}:=@List.setIfInBounds_toArray.{u}
abbrev LU.{u}:=@List.mem_cons.{u}
abbrev LV.{u}:=@List.getElem?_append_right.{u}
abbrev LW.{u}:=@List.mem_append_left.{u}
abbrev LY.{u}:=@List.drop_length.{u}
abbrev LZ.{u}:=@List.append_assoc.{u}
abbrev Ma.{u}:=@List.length_set.{u}
abbrev Mb:=@Nat.zero_add
abbrev Mc.{u}:=@List.mem_append_right.{u}
abbrev Md.{u}:=@List.getElem?_append_left.{u}
abbrev Me:=@decide_eq_false_iff_not
abbrev Mg.{u}:=@Option.some.injEq.{u}
abbrev Mo:=@Go.World.size_alloc
abbrev Mp.{u}:=@List.getD_eq_getElem?_getD.{u}
abbrev Mq:=@Nat.sub_self
abbrev Mr.{u}:=@List.drop_succ_cons.{u}
abbrev Ms.{u}:=@List.nodup_append.{u}
abbrev Mt.{u}:=@List.drop_zero.{u}
abbrev MA.{u}:=@List.take_of_length_le.{u}
abbrev MC.{u}:=@List.append_nil.{u}
abbrev MD:=@Go.cell_of_row
abbrev ME.{u}:=@List.take_add_one.{u}
abbrev MF:=@Go.bodyPost_end
abbrev MG.{u}:=@List.length_take.{u}
abbrev MJ.{u}:=@List.take_length.{u}
abbrev ML.{u}:=@List.mem_cons_of_mem.{u}
abbrev MM:=@Go.World.block_lt_of_cell?
abbrev MO:=@Nat.lt_succ_of_lt
abbrev MP.{u}:=@List.getElem?_set_self.{u}
abbrev MQ.{u}:=@Array.size_setIfInBounds.{u}
abbrev MS:=@Nat.succ_le_succ
abbrev MT.{u}:=@Array.getElem?_setIfInBounds_ne.{u}
abbrev MU.{u}:=@List.drop_eq_nil_of_le.{u}
abbrev MW.{u}:=@Array.getElem?_eq_getElem.{u}
abbrev MX.{u}:=@List.not_mem_nil.{u}
abbrev MY.{u,v}:=@congrArg.{u,v}
abbrev MZ.{u}:=@List.getElem?_eq_none.{u}
abbrev M0.{u}:=@Option.some.inj.{u}
abbrev M1:=@Int.eq_ofNat_of_zero_le
abbrev M3.{u}:=@List.length_eq_zero_iff.{u}
abbrev M4:=@Bool.true_and
abbrev M5.{u}:=@List.getElem?_set_ne.{u}
abbrev M6:=@Go.wpStill_nil
abbrev M7:=@Int.add_sub_cancel
abbrev M9.{u}:=@Classical.choose_spec.{u}
abbrev Na:=@ByteArray.size_append
abbrev Nb:=@Go.Value.slice.injEq
abbrev Nc.{u}:=@List.getElem?_take.{u}
abbrev Nd.{u}:=@List.getElem?_eq_none_iff.{u}
abbrev Nf:=@Go.info_parts
abbrev Ng:=@of_decide_eq_true
abbrev Nh.{u}:=@List.drop_drop.{u}
abbrev Np.{u}:=@Array.getElem?_eq_some_iff.{u}
abbrev Nr.{u}:=@List.ext_getElem?.{u}
abbrev Ns:=@Int.add_zero
abbrev Nt:=@Go.IntWalk.wrap64_in
abbrev Nu.{u,v}:=@List.map_append.{u,v}
abbrev Nv.{u}:=@List.any_eq_true.{u}
abbrev Nw.{u}:=@List.filter_cons.{u}
abbrev Nx.{u}:=@if_true.{u}
abbrev Ny:=@Nat.lt_or_ge
abbrev NF.{u}:=@Array.getElem?_eq_none.{u}
abbrev NG.{u}:=@Array.getElem?_append_right.{u}
abbrev NH:=@Nat.lt_irrefl
abbrev NI.{u,v}:=@List.map_cons.{u,v}
abbrev NK:=@Nat.le_succ
abbrev NL.{u}:=@List.all_eq_true.{u}
abbrev NM.{u}:=@List.length_drop.{u}
abbrev NO.{u}:=@List.getElem?_drop.{u}
abbrev NP.{u}:=@List.drop_left.{u}
abbrev NR:=@decide_eq_true_iff
abbrev NS:=@Bool.and_eq_false_iff
abbrev NT.{u}:=@List.nodup_cons.{u}
abbrev NU:=@Bool.or_eq_true
abbrev NV.{u}:=@List.cons.injEq.{u}
abbrev NW:=@Bool.not_eq_true'
abbrev NX.{u,v}:=@List.getElem?_map.{u,v}
abbrev NY.{u}:=@List.getElem?_set.{u}
abbrev NZ.{u}:=@List.getElem?_of_mem.{u}
abbrev N0:=@Nat.one_mul
abbrev N1.{u}:=@List.take_append_of_le_length.{u}
abbrev N2:=@Int.le_refl
abbrev N3:=@Nat.eq_zero_or_pos
abbrev N4:=@Nat.le_of_eq
abbrev N5:=@ByteArray.append_assoc
abbrev N6.{u}:=@List.mem_cons_self.{u}
abbrev N7:=@Nat.min_eq_left
abbrev N8.{u,v}:=@List.length_map.{u,v}
abbrev N9.{u}:=@List.set_append_right.{u}
abbrev Oa.{u}:=@List.length_replicate.{u}
abbrev Ob:=@Nat.lt_trichotomy
abbrev Oc:=@List.mem_range'_1
abbrev Od.{u,v}:=@List.flatMap_cons.{u,v}
abbrev Oe.{u}:=@Array.getElem?_setIfInBounds_self_of_lt.{u}
abbrev Of:=@Go.IntWalk.i64_in
abbrev Og:=@Nat.mul_one
abbrev Oh.{u}:=@Array.toList_setIfInBounds.{u}
abbrev Oi:=@Go.Addr.add_lit
abbrev Oj.{u}:=@List.getLast?_eq_getElem?.{u}
abbrev Ok:=@Go.ByteArray.toList_eq
abbrev Ol.{u}:=@List.eq_of_mem_replicate.{u}
abbrev Om.{u}:=@Array.ext_getElem?.{u}
abbrev On:=@Nat.eq_or_lt_of_le
abbrev Oo:=@of_decide_eq_false
abbrev Ot:=@Go.wpList_plain
abbrev Ou.{u}:=@List.nodup_nil.{u}
abbrev Ov.{u,v}:=@List.foldl_append.{u,v}
abbrev Ow:=@Bool.eq_false_iff
abbrev Ox:=@or_false
abbrev Oy.{u}:=@Array.getElem?_modify.{u}
abbrev Oz:=@Nat.le_add_right
abbrev OA:=@Nat.add_mul
abbrev OB.{u}:=@List.getElem?_append.{u}
abbrev OC:=@Bool.eq_iff_iff
abbrev OD.{u}:=@List.all_append.{u}
abbrev OF:=@Go.RowKit.Below.heap_setCell
abbrev OG:=@Int.tmod_eq_emod_of_nonneg
abbrev OH:=@Bool.false_eq_true
abbrev OI:=@Go.Addr.mk.injEq
abbrev OJ:=@and_true
abbrev OK:=@List.range'_succ
abbrev OL:=@Nat.max_eq_right
abbrev OM:=@Nat.add_comm
abbrev ON:=@Nat.le_of_lt
abbrev OO:=@Nat.max_eq_left
abbrev OP:=@Go.trodAll_cons_mk
abbrev OQ:=@Bool.and_false
abbrev OS:=@Go.getD_set_ne
abbrev OT:=@true_and
abbrev OU:=@decide_true
abbrev OV:=@Or.elim
variable {A:K Mh}{B c g hi k m n:Nat}{K7 S S':Q Nat}{W0 a b w w0 w1 w2:N}{cs:Q LA}{cur:Array LA}{e:TypeId}{v:LA}{x y:D}
theorem lay:(∀(a:Act)(t:Tmp)(v:LA),a.put (H t) v = { a with tmps:=a.tmps.setIfInBounds t v })/\(∀(a:Act)(v:LA),a.put V v=a)/\(∀(l:Q LA)(i:Nat)(v:LA),l.toArray.setIfInBounds i v=(l.set i v).toArray)/\(∀(x v:LA)(l:Q LA),(x::l).set 0 v=v::l)/\(∀(x v:LA)(l:Q LA)(n:Nat),(x::l).set (n+1) v=x::l.set n v):=⟨fun _ _ _=>rfl,fun _ _=>rfl,fun _ _ _=>LS ..,fun _ _ _=>rfl,fun _ _ _ _=>rfl⟩
theorem iw {n:Int} (h : -9223372036854775808<=n/\n<=9223372036854775807:=by omega):IntKind.i64.wrap n=n:=Of _ ⟨h.1,by omega⟩
theorem blt {o:Obj} (h:w.heap[g]?=H o):g<w.heap.size:=(Np.1 h).1
theorem fE {p:Prop} (h:p):Hid p:=Lib.hid h
theorem kT:(∀(l:Q LA)(i:Nat)(h:i<l.toArray.size),l.toArray[i]=l[i]'(by simpa using h))/\(∀(a:LA)(l:Q LA)(i:Nat)(h:i+1<(a::l).length),(a::l)[i+1]=l[i]'(by simpa using h))/\(∀(a:LA)(l:Q LA)(h:0<(a::l).length),(a::l)[0]=a)/\(∀(a:Act)(t:Tmp)(v:LA),a.put (H t) v = { a with tmps:=a.tmps.setIfInBounds t v })/\(∀(a:Act)(v:LA),a.put V v=a)/\(∀(l:Q LA)(i:Nat)(v:LA),l.toArray.setIfInBounds i v=(l.set i v).toArray)/\(∀(x v:LA)(l:Q LA),(x::l).set 0 v=v::l)/\(∀(x v:LA)(l:Q LA)(n:Nat),(x::l).set (n+1) v=x::l.set n v):=⟨fun _ _ _=>My ..,fun _ _ _ _=>rfl,fun _ _ _=>rfl,lay⟩
theorem gL {p:Prop} (h:p:=by(simp[Ml];try omega)):p:=h
def fO (w:N)(os:Array Obj)(d:Nat):N:={ w with heap:=w.heap++os,drawn:=d }
section
variable {w:N}
theorem tC (os:Array Obj)(d n:Nat)(hn:n<w.heap.size):(fO w os d).heap[n]?=w.heap[n]?:=by
 simp only[fO];exact Array.getElem?_append_left hn
@[simp,go_sem] theorem yW (os:Array Obj) (d:Nat):(fO w os d).heap.size=w.heap.size+os.size:=by simp[fO]
@[go_sem] theorem KZ (os:Array Obj) (d:Nat):(fO w os d).tape=w.tape:=rfl
@[go_sem] theorem JA (os:Array Obj) (d n i:Nat) (hn:n<w.heap.size):(fO w os d).cell? ⟨n,i,V⟩=Lg w ⟨n,i,V⟩:=by
 simp only[Lg,tC os d n hn]
@[go_sem] theorem Ho (os:Array Obj) (d n i:Nat) (hn:n<w.heap.size):(fO w os d).frozen? ⟨n,i,V⟩=LD w ⟨n,i,V⟩:=by
 simp only[LD,tC os d n hn]
@[go_sem] theorem FZ (os:Array Obj) (d n i:Nat) (v:LA) (hn:n<w.heap.size):(fO w os d).setCell ⟨n,i,V⟩ v=fO (w.setCell ⟨n,i,V⟩ v) os d:=by
 unfold MH fO;congr 1;apply Om;intro k;simp only[Oy,Array.getElem?_append,Array.size_modify];by_cases hk:k=n
 ·subst hk
  simp[hn]
 ·have a0:¬ n=k:=fun e=>hk e.symm
  simp[a0]
theorem tD (os os':Array Obj)(d d':Nat):fO (fO w os d) os' d'=fO w (os++os') d':=by
 simp[fO]
@[go_sem] theorem KS (os:Array Obj) (d:Nat):fO w.drew os d=fO w os d:=rfl
@[go_sem] theorem KV (n:Nat) (os:Array Obj) (d:Nat):fO (w.drewN n) os d=fO w os d:=rfl
theorem BD (o:Obj):w.alloc o=fO w #[o] w.drawn:=by
 unfold fO World.alloc;simp
theorem FY:w.drew=fO w #[] (w.drawn+1):=by
 unfold fO World.drew;simp
theorem yV:w=fO w #[] w.drawn:=by simp[fO]
end
@[go_sem] theorem KU {a b c:Nat} (h:a<b):(a<b+c)=True:=by simp;omega
@[go_sem] theorem KO (w:N) (n:Nat) (p:Mh) (v:LA):(w.drewN n).setCell p v=(w.setCell p v).drewN n:=rfl
@[go_sem] theorem KQ (w:N) (n:Nat) (o:Obj):(w.drewN n).alloc o=(w.alloc o).drewN n:=rfl
def lV (n:Nat)(w:N):Prop:=n<w.heap.size
@[go_sem] theorem KW (n:Nat) (w:N) (o:Obj):lV n (w.alloc o)=(n=w.heap.size∨lV n w):=by
 unfold lV;rw[Mo];exact propext ⟨fun h=>by omega,fun h=>by omega⟩
@[go_sem] theorem K1 (n:Nat) (w:N) (os:Array Obj) (d:Nat):lV n (fO w os d)=(lV n w∨(w.heap.size<=n/\n<w.heap.size+os.size)):=by
 unfold lV;rw[yW];exact propext ⟨fun h=>by omega,fun h=>by omega⟩
@[go_sem] theorem K0 (n:Nat) (w:N):lV n w.drew=lV n w:=rfl
@[go_sem] theorem KX (n k:Nat) (w:N):lV n (w.drewN k)=lV n w:=rfl
@[go_sem] theorem KT (n:Nat) (w:N) (p:Mh) (v:LA):lV n (w.setCell p v)=lV n w:=by
 unfold lV;rw[World.size_setCell]
@[go_sem] theorem K2 {n:Nat} {w:N} (h:n<w.heap.size):lV n w=True:=eq_true h
section
variable {w:N}
@[go_sem] theorem KM (o:Obj) (n i:Nat) (hn:lV n w):(w.alloc o).cell? ⟨n,i,V⟩=Lg w ⟨n,i,V⟩:=World.cell?_alloc_past o n i hn
@[go_sem] theorem KK (o:Obj) (n i:Nat) (hn:lV n w):(w.alloc o).frozen? ⟨n,i,V⟩=LD w ⟨n,i,V⟩:=World.frozen?_alloc_past o n i hn
@[go_sem] theorem EY (o:Obj) (n i:Nat) (v:LA) (hn:lV n w):(w.alloc o).setCell ⟨n,i,V⟩ v=(w.setCell ⟨n,i,V⟩ v).alloc o:=World.setCell_alloc_past o n i v hn
@[go_sem] theorem KR (os:Array Obj) (d n i:Nat) (hn:lV n w):(fO w os d).cell? ⟨n,i,V⟩=Lg w ⟨n,i,V⟩:=JA os d n i hn
@[go_sem] theorem KN (os:Array Obj) (d n i:Nat) (hn:lV n w):(fO w os d).frozen? ⟨n,i,V⟩=LD w ⟨n,i,V⟩:=Ho os d n i hn
@[go_sem] theorem KL (os:Array Obj) (d n i:Nat) (v:LA) (hn:lV n w):(fO w os d).setCell ⟨n,i,V⟩ v=fO (w.setCell ⟨n,i,V⟩ v) os d:=FZ os d n i v hn
end
def fF (w w':N):Prop:=∃ os d,w'=fO w os d
theorem fF.refl (w:N):fF w w:=⟨_,_,yV⟩
theorem fF.lX (a:N)(os:Array Obj)(d:Nat):fF (fO a.drew os d) (fO a os d):=fF.refl (fO a os d)
theorem fF.lC (a:N)(n:Nat)(os:Array Obj)(d:Nat):fF (fO (a.drewN n) os d) (fO a os d):=fF.refl (fO a os d)
theorem fF.of (w:N)(os:Array Obj)(d:Nat):fF w (fO w os d):=⟨_,_,rfl⟩
theorem fF.trans {c:N} (h:fF a b)(k:fF b c):fF a c:=by
 obtain⟨o,d,rfl⟩:=h;obtain⟨o',d',rfl⟩:=k;exact⟨_,_,tD _ _ _ _⟩
theorem fF.alloc {a b:N}(h:fF a b)(o:Obj):fF a (b.alloc o):=h.trans ⟨_,_,BD o⟩
theorem fF.drew {a b:N}(h:fF a b):fF a b.drew:=h.trans ⟨_,_,FY⟩
theorem fF.more (h:fF a b)(os:Array Obj)(d:Nat):fF a (fO b os d):=h.trans ⟨_,_,rfl⟩
theorem fF.size {a b:N}(h:fF a b):a.heap.size<=b.heap.size:=by
 obtain⟨o,d,rfl⟩:=h;rw[yW];omega
theorem fF.block (h:fF a b){k:Nat}(hk:k<a.heap.size):b.heap[k]?=a.heap[k]?:=by
 obtain⟨o,d,rfl⟩:=h;exact tC _ _ _ hk
theorem fF.below (h:fF a b):Below a.heap.size a b:=by
 obtain⟨o,d,rfl⟩:=h;exact⟨rfl,rfl,rfl,by simp[fO],fun k hk=>tC _ _ _ hk⟩
theorem fF.kA (h:Below a.heap.size a b):fF a b:=by
 refine⟨b.heap.extract a.heap.size b.heap.size,b.drawn,?_⟩
 have hh:b.heap=a.heap++b.heap.extract a.heap.size b.heap.size:=by
  apply Om;intro k;rw[Array.getElem?_append];split
  ·rename_i hk
   exact h.block k hk
  ·rename_i hk
   rw[Array.getElem?_extract];have:=h.size;split
   ·congr 1
    omega
   ·rw[NF]
    omega
 unfold fO;rw[<-hh];have h1:=h.os;have h2:=h.tape;have h3:=h.output;cases a;cases b;simp only at h1 h2 h3;subst h1 h2 h3;rfl
theorem fF.grown {W0 W w':N}{row:K Nat}(h:fF W0 W)(hg:W.grownBy w' row)(hr:∀ k,row=H k->W0.heap.size<=k):fF W0 w':=
 fF.kA (h.below.grown hg h.size hr)
theorem fF.setRow {W:N} (h:fF W0 W){p:Mh}(hp:W0.heap.size<=p.block)(u:LA):fF W0 (W.setCell p u):=
 fF.kA (h.below.setCell hp u)
def gX (n m:Nat)(w w':N):Prop:=∀ k,n<=k->k<m->w'.heap[k]?=w.heap[k]?
theorem gX.refl (n m:Nat)(w:N):gX n m w w:=fun _ _ _=>rfl
theorem gX.base {os:Array Obj} {d d':Nat} (h:b.heap.size=a.heap.size)(hn:a.heap.size<=n):gX n m (fO a os d) (fO b os d'):=by
 intro k hk _;simp only[Go.Proofs.YtiihkapmggfjkaaGreat.fO];rw[NG (by omega),NG (by omega),h]
theorem gX.more (h:gX n m a b)(hm:m<=b.heap.size)(os:Array Obj)(d:Nat):gX n m a (Go.Proofs.YtiihkapmggfjkaaGreat.fO b os d):=
 fun k h1 h2=>(tC os d k (by omega)).trans (h k h1 h2)
theorem gX.alloc {n m:Nat}{a b:N}(h:gX n m a b)(hm:m<=b.heap.size)(o:Obj):gX n m a (b.alloc o):=
 fun k h1 h2=>(Below.heap_alloc b o k (by omega)).trans (h k h1 h2)
theorem gX.drew {n m:Nat}{a b:N}(h:gX n m a b):gX n m a b.drew:=h
theorem gX.drewN {n m k:Nat}{a b:N}(h:gX n m a b):gX n m a (b.drewN k):=h
theorem gX.fO (h:fF a b):gX n a.heap.size a b:=fun _ _ h2=>h.block h2
/-! ### only the blocks of S have turned -/
structure fJ (S:Q Nat)(w w':N):Prop where
 os:w'.os=w.os
 tape:w'.tape=w.tape
 output:w'.output=w.output
 size:w.heap.size<=w'.heap.size
 block:∀ k,k<w.heap.size->k∉S->w'.heap[k]?=w.heap[k]?
theorem fJ.refl (S:Q Nat)(w:N):fJ S w w:=⟨rfl,rfl,rfl,Lz _,fun _ _ _=>rfl⟩
theorem fJ.trans {S:Q Nat}{a b c:N}(h:fJ S a b)(k:fJ S b c):fJ S a c:=
 ⟨k.os.trans h.os,k.tape.trans h.tape,k.output.trans h.output,LO h.size k.size,fun i hi hn=>(k.block i (Li hi h.size) hn).trans (h.block i hi hn)⟩
theorem fJ.mono (h:fJ S a b)(hs:∀ k∈S,k∈S'):fJ S' a b:=
 ⟨h.os,h.tape,h.output,h.size,fun i hi hn=>h.block i hi (fun hm=>hn (hs i hm))⟩
theorem fF.only (h:fF a b)(S:Q Nat):fJ S a b:=by
 have hb:=h.below;exact⟨hb.os,hb.tape,hb.output,hb.size,fun k hk _=>hb.block k hk⟩
theorem fJ.setCell {S:Q Nat}{a b:N}(h:fJ S a b){p:Mh}(hp:p.block∈S)(u:LA):fJ S a (b.setCell p u):=
 h.trans ⟨rfl,rfl,rfl,by simp,fun k _ hn=>OF _ _ _ _ (fun e=>hn (by rw[e];exact hp))⟩
theorem fJ.cell {S:Q Nat}{a b:N}(h:fJ S a b){g:Nat}(hg:g<a.heap.size)(hn:g∉S)(i:Nat):Lg b ⟨g,i,V⟩=Lg a ⟨g,i,V⟩:=
 World.cell?_of_block (h.block g hg hn)
theorem fJ.frozen {S:Q Nat}{a b:N}(h:fJ S a b){g:Nat}(hg:g<a.heap.size)(hn:g∉S)(i:Nat):LD b ⟨g,i,V⟩=LD a ⟨g,i,V⟩:=
 World.frozen?_of_block (h.block g hg hn)
theorem fJ.fO (h:fJ S a b)(hg:fF W0 a)(hs:∀ k∈S,W0.heap.size<=k):fF W0 b:=
 fF.kA ⟨h.os.trans hg.below.os,h.tape.trans hg.below.tape,h.output.trans hg.below.output,LO hg.size h.size,fun k hk=>
  (h.block k (Li hk hg.size) (fun hm=>by have:=hs k hm;omega)).trans (hg.block hk)⟩
/-! ### how a Go type's cells read -/
structure Ty (α:Type) where
 size:Nat
 R:N->Nat->Q LA->α->Prop
 O:N->Q LA->α->Q Nat->Prop
 kz:∀{w B cs x},R w B cs x->cs.length=size
 iZ:∀{w cs x S},O w cs x S->cs.length=size
 kO:∀{w cs x S},O w cs x S->∀ u∈cs,u.oneCell'=M
 ld:∀{w B cs x},R w B cs x->∀ u∈cs,u.oneCell'=M
 iR:∀{w w' B B' cs x},R w B cs x->(∀ k,k<B->w'.heap[k]?=w.heap[k]?)->B<=B'->R w' B' cs x
 hJ:∀{w w' cs x S},O w cs x S->(∀ k∈S,w'.heap[k]?=w.heap[k]?)->O w' cs x S
 jB:∀{w cs x S},O w cs x S->∀ k∈S,k<w.heap.size
 OR:∀{w cs x S B},O w cs x S->(∀ k∈S,k<B)->R w B cs x
theorem Ty.fO {α:Type} (T:Ty α){w w':N}{B:Nat}{cs:Q LA}{x:α}(h:T.R w B cs x)(hg:fF w w')(hB:B<=w.heap.size):T.R w' B cs x:=
 T.iR h (fun _ hk=>hg.block (by omega)) (Lz _)
theorem Ty.up {α:Type} (T:Ty α){w w':N}{cs:Q LA}{x:α}(h:T.R w w.heap.size cs x)(hg:fF w w'):T.R w' w'.heap.size cs x:=
 T.iR h (fun _ hk=>hg.block hk) hg.size
theorem Ty.jl {α:Type} (T:Ty α){w w':N}{cs:Q LA}{x:α}{S:Q Nat}(h:T.O w cs x S)(hg:fF w w'):T.O w' cs x S:=
 T.hJ h fun _ hk=>hg.block (T.jB h _ hk)
theorem Ty.same {α:Type} (T:Ty α){w w':N}{cs:Q LA}{x:α}{S:Q Nat}{n:Nat}(h:T.O w cs x S)(hL:∀ b∈S,n<=b)(hs:gX n w.heap.size w w'):T.O w' cs x S:=
 T.hJ h fun k hk=>hs k (hL k hk) (T.jB h k hk)
theorem Ty.read {α:Type} (T:Ty α){w:N}{cs:Q LA}{x:α}{S:Q Nat}(h:T.O w cs x S):T.R w w.heap.size cs x:=T.OR h (T.jB h)
def fV (x:Int):Prop:=-9223372036854775808<=x/\x<=9223372036854775807
def zF:Ty Int where
 size:=1
 R:=fun _ _ cs x=>cs = [F I x]/\-9223372036854775808<=x/\x<=9223372036854775807
 O:=fun _ cs x S=>cs = [F I x]/\-9223372036854775808<=x/\x<=9223372036854775807/\S = []
 kz:=by rintro _ _ _ _ ⟨rfl,_⟩;rfl
 iZ:=by rintro _ _ _ _ ⟨rfl,_⟩;rfl
 kO:=by rintro _ _ _ _ ⟨rfl,_⟩ u hu;simp at hu;subst hu;rfl
 ld:=by rintro _ _ _ _ ⟨rfl,_⟩ u hu;simp at hu;subst hu;rfl
 iR:=by rintro _ _ _ _ _ _ h _ _;exact h
 hJ:=by rintro _ _ _ _ _ h _;exact h
 jB:=by rintro _ _ _ _ ⟨_,_,_,rfl⟩ k hk;simp at hk
 OR:=by rintro _ _ _ _ _ ⟨h1,h2,h3,_⟩ _;exact⟨h1,h2,h3⟩
def rr:Ty Bool where
 size:=1
 R:=fun _ _ cs x=>cs = [X x]
 O:=fun _ cs x S=>cs = [X x]/\S = []
 kz:=by rintro _ _ _ _ rfl;rfl
 iZ:=by rintro _ _ _ _ ⟨rfl,_⟩;rfl
 kO:=by rintro _ _ _ _ ⟨rfl,_⟩ u hu;simp at hu;subst hu;rfl
 ld:=by rintro _ _ _ _ rfl u hu;simp at hu;subst hu;rfl
 iR:=by rintro _ _ _ _ _ _ h _ _;exact h
 hJ:=by rintro _ _ _ _ _ h _;exact h
 jB:=by rintro _ _ _ _ ⟨_,rfl⟩ k hk;simp at hk
 OR:=by rintro _ _ _ _ _ ⟨h1,_⟩ _;exact h1
def iH:Ty D where
 size:=1
 R:=fun _ _ cs x=>cs = [G x]/\x.size<=9223372036854775807
 O:=fun _ cs x S=>cs = [G x]/\x.size<=9223372036854775807/\S = []
 kz:=by rintro _ _ _ _ ⟨rfl,_⟩;rfl
 iZ:=by rintro _ _ _ _ ⟨rfl,_⟩;rfl
 kO:=by rintro _ _ _ _ ⟨rfl,_⟩ u hu;simp at hu;subst hu;rfl
 ld:=by rintro _ _ _ _ ⟨rfl,_⟩ u hu;simp at hu;subst hu;rfl
 iR:=by rintro _ _ _ _ _ _ h _ _;exact h
 hJ:=by rintro _ _ _ _ _ h _;exact h
 jB:=by rintro _ _ _ _ ⟨_,_,rfl⟩ k hk;simp at hk
 OR:=by rintro _ _ _ _ _ ⟨h1,h2,_⟩ _;exact⟨h1,h2⟩
def Ty.prod {α β:Type}(T:Ty α)(K8:Ty β):Ty (α × β) where
 size:=T.size+K8.size
 R:=fun w B cs x=>∃ c1 c2,cs=c1++c2/\T.R w B c1 x.1/\K8.R w B c2 x.2
 O:=fun w cs x S=>∃ c1 c2 S1 S2,cs=c1++c2/\S=S1++S2/\T.O w c1 x.1 S1/\K8.O w c2 x.2 S2
 kz:=by rintro _ _ _ _ ⟨c1,c2,rfl,h1,h2⟩;simp[T.kz h1,K8.kz h2]
 iZ:=by rintro _ _ _ _ ⟨c1,c2,_,_,rfl,_,h1,h2⟩;simp[T.iZ h1,K8.iZ h2]
 kO:=by
  rintro _ _ _ _ ⟨c1,c2,_,_,rfl,_,h1,h2⟩ u hu
  rcases LG.1 hu with hu | hu
  ·exact T.kO h1 u hu
  ·exact K8.kO h2 u hu
 ld:=by
  rintro _ _ _ _ ⟨c1,c2,rfl,h1,h2⟩ u hu
  rcases LG.1 hu with hu | hu
  ·exact T.ld h1 u hu
  ·exact K8.ld h2 u hu
 iR:=by rintro _ _ _ _ _ _ ⟨c1,c2,rfl,h1,h2⟩ hk hB;exact⟨c1,c2,rfl,T.iR h1 hk hB,K8.iR h2 hk hB⟩
 hJ:=by
  rintro _ _ _ _ _ ⟨c1,c2,S1,S2,rfl,rfl,h1,h2⟩ hk
  exact⟨c1,c2,S1,S2,rfl,rfl,T.hJ h1 (fun k hk1=>hk k (LW _ hk1)),K8.hJ h2 (fun k hk2=>hk k (Mc _ hk2))⟩
 jB:=by
  rintro _ _ _ _ ⟨c1,c2,S1,S2,rfl,rfl,h1,h2⟩ k hk
  rcases LG.1 hk with hk | hk
  ·exact T.jB h1 k hk
  ·exact K8.jB h2 k hk
 OR:=by
  rintro _ _ _ _ _ ⟨c1,c2,S1,S2,rfl,rfl,h1,h2⟩ hk
  exact⟨c1,c2,rfl,T.OR h1 (fun k hk1=>hk k (LW _ hk1)),K8.OR h2 (fun k hk2=>hk k (Mc _ hk2))⟩
def Ty.via {α β:Type}(T:Ty α)(f:β->α):Ty β where
 size:=T.size
 R:=fun w B cs x=>T.R w B cs (f x)
 O:=fun w cs x S=>T.O w cs (f x) S
 kz:=T.kz
 iZ:=T.iZ
 kO:=T.kO
 ld:=T.ld
 iR:=T.iR
 hJ:=T.hJ
 jB:=T.jB
 OR:=T.OR
def Rows {α:Type}(T:Ty α)(w:N):Q LA->Q α->Q Nat->Prop
 | cs,[],S=>cs = []/\S = []
 | cs,x::xs,S=>∃ c1 c2 S1 S2,cs=c1++c2/\S=S1++S2/\T.O w c1 x S1/\Rows T w c2 xs S2
section
variable {α:Type} {T:Ty α} {w w':N}
theorem Rows.len:∀{xs:Q α}{cs:Q LA}{S:Q Nat},Rows T w cs xs S->cs.length=xs.length*T.size
 | [],_,_,h=>by simp[h.1]
 | x::xs,_,_,⟨c1,c2,S1,S2,h1,_,h3,h4⟩=>by
  subst h1;rw[Lj,T.iZ h3,Rows.len h4,LJ,OA,N0,OM]
theorem Rows.one:∀{xs:Q α}{cs:Q LA}{S:Q Nat},Rows T w cs xs S->∀ u∈cs,u.oneCell'=M
 | [],_,_,h=>by simp[h.1]
 | x::xs,_,_,⟨c1,c2,S1,S2,h1,_,h3,h4⟩=>by
  subst h1;intro u hu;rcases LG.1 hu with hu | hu
  ·exact T.kO h3 u hu
  ·exact Rows.one h4 u hu
theorem Rows.fU:∀{xs:Q α}{cs:Q LA}{S:Q Nat},Rows T w cs xs S->(∀ k∈S,w'.heap[k]?=w.heap[k]?)->Rows T w' cs xs S
 | [],_,_,h,_=>h
 | x::xs,_,_,⟨c1,c2,S1,S2,h1,h2,h3,h4⟩,hk=>by
  subst h2;exact⟨c1,c2,S1,S2,h1,rfl,T.hJ h3 (fun k hk1=>hk k (LW _ hk1)),Rows.fU h4 (fun k hk2=>hk k (Mc _ hk2))⟩
theorem Rows.lt:∀{xs:Q α}{cs:Q LA}{S:Q Nat},Rows T w cs xs S->∀ k∈S,k<w.heap.size
 | [],_,_,h=>by simp[h.2]
 | x::xs,_,_,⟨c1,c2,S1,S2,h1,h2,h3,h4⟩=>by
  subst h2;intro k hk;rcases LG.1 hk with hk | hk
  ·exact T.jB h3 k hk
  ·exact Rows.lt h4 k hk
theorem Rows.snoc:∀{xs:Q α}{cs:Q LA}{S:Q Nat},Rows T w cs xs S->∀{c:Q LA}{x:α}{S':Q Nat},T.O w c x S'->Rows T w (cs++c) (xs++[x]) (S++S')
 | [],_,_,h,c,x,S',hx=>by
  obtain⟨rfl,rfl⟩:=h;exact⟨c,[],S',[],by simp,by simp,hx,rfl,rfl⟩
 | y::ys,_,_,⟨c1,c2,S1,S2,h1,h2,h3,h4⟩,c,x,S',hx=>by
  subst h1 h2;exact⟨c1,c2++c,S1,S2++S',by simp,by simp,h3,Rows.snoc h4 hx⟩
theorem Rows.app:∀{xs:Q α}{cs:Q LA}{S:Q Nat},Rows T w cs xs S->∀{ys:Q α}{ds:Q LA}{S':Q Nat},Rows T w ds ys S'->Rows T w (cs++ds) (xs++ys) (S++S')
 | [],_,_,h,ys,ds,S',hy=>by
  obtain⟨rfl,rfl⟩:=h;simpa using hy
 | x::xs,_,_,⟨c1,c2,S1,S2,h1,h2,h3,h4⟩,ys,ds,S',hy=>by
  subst h1 h2;exact⟨c1,c2++ds,S1,S2++S',by simp,by simp,h3,Rows.app h4 hy⟩
theorem Rows.part:∀{k:Nat}{xs:Q α}{cs:Q LA}{S:Q Nat},Rows T w cs xs S->∀{x:α},xs[k]?=H x->
  ∃ a c b Sa Sc Sb,cs=a++(c++b)/\S=Sa++(Sc++Sb)/\a.length=k*T.size/\Rows T w a (xs.take k) Sa/\T.O w c x Sc/\Rows T w b (xs.drop (k+1)) Sb
 | _,[],_,_,_,x,hx=>by simp at hx
 | 0,y::ys,_,_,⟨c1,c2,S1,S2,h1,h2,h3,h4⟩,x,hx=>by
  simp at hx;subst hx;exact⟨[],c1,c2,[],S1,S2,by simp[h1],by simp[h2],by simp,⟨rfl,rfl⟩,h3,by simpa using h4⟩
 | k+1,y::ys,_,_,⟨c1,c2,S1,S2,h1,h2,h3,h4⟩,x,hx=>by
  obtain⟨a,c,b,Sa,Sc,Sb,e1,e2,e3,ha,hc,hb⟩:=Rows.part h4 (k:=k) (x:=x) (by simpa using hx);subst h1 h2 e1 e2;refine⟨c1++a,c,b,S1++Sa,Sc,Sb,by simp,by simp,?_,?_,hc,?_⟩
  ·rw[Lj,T.iZ h3,e3,OA,N0,OM]
  ·exact⟨c1,a,S1,Sa,rfl,rfl,h3,ha⟩
  ·simpa using hb
theorem Rows.join {xs:Q α} {a c b:Q LA} {Sa Sc Sb:Q Nat} {x y:α} (hx:xs[k]?=H x)(ha:Rows T w a (xs.take k) Sa)(hc:T.O w c y Sc)(hb:Rows T w b (xs.drop (k+1)) Sb) :
  Rows T w (a++(c++b)) (xs.set k y) (Sa++(Sc++Sb)):=by
 have hk:k<xs.length:=(Lh.1 hx).1
 have e:xs.set k y=xs.take k++([y]++xs.drop (k+1)):=by
  rw[List.set_eq_take_append_cons_drop,Lu hk];rfl
 rw[e];exact Rows.app ha (Rows.app (show Rows T w c [y] Sc from⟨c,[],Sc,[],by simp,by simp,hc,rfl,rfl⟩) hb)
theorem mT {g:Prop} (f:g:=by
  rw[LV (by omega),hl,Nat.add_sub_cancel_left,Md (Lh.1 hu).1]
  exact hu):g:=f
theorem Rows.get {xs:Q α} (h:Rows T w cs xs S){x:α}(hx:xs[k]?=H x) :
  ∃ c Sc,T.O w c x Sc/\(∀ j∈Sc,j∈S)/\∀ j u,c[j]?=H u->cs[k*T.size+j]?=H u:=by
 obtain⟨a,c,b,Sa,Sc,Sb,rfl,rfl,hl,_,hc,_⟩:=h.part hx;refine⟨c,Sc,hc,fun j hj=>by simp[hj],fun j u hu=>?_⟩;exact mT
end
def jQ:K Mh->Q Nat
 | some a=>[a.block]
 | none=>[]
def Ty.sl {α:Type}(T:Ty α)(e:TypeId):Ty (Q α) where
 size:=1
 R:=fun w B cs xs=>∃ A c,cs = [J A xs.length c]/\xs.length<=c/\c<=9223372036854775807/\(A=V->c=0)/\
  (0<xs.length->∃ g off,A=H ⟨g,off,V⟩/\g<B/\∀ i x,xs[i]?=H x->∃ ec,T.R w B ec x/\∀ j u,ec[j]?=H u->Lg w ⟨g,off+i*T.size+j,V⟩=H u)
 O:=fun w cs xs S=>∃ A c ecs S',cs = [J A xs.length c]/\w.ownsRow 0 e T.size (J A xs.length c) xs.length ecs/\Rows T w ecs xs S'/\S=jQ A++S'
 kz:=by rintro _ _ _ _ ⟨A,c,rfl,_⟩;rfl
 iZ:=by rintro _ _ _ _ ⟨A,c,_,_,rfl,_⟩;rfl
 kO:=by rintro _ _ _ _ ⟨A,c,_,_,rfl,_⟩ u hu;simp at hu;subst hu;rfl
 ld:=by rintro _ _ _ _ ⟨A,c,rfl,_⟩ u hu;simp at hu;subst hu;rfl
 iR:=by
  rintro w w' B B' cs xs ⟨A,c,rfl,h1,h2,h3,h4⟩ hk hB
  refine⟨A,c,rfl,h1,h2,h3,fun hp=>?_⟩
  obtain⟨g,off,rfl,hg,h5⟩:=h4 hp
  refine⟨g,off,rfl,by omega,fun i x hx=>?_⟩
  obtain⟨ec,h6,h7⟩:=h5 i x hx
  exact⟨ec,T.iR h6 hk hB,fun j u hu=>(World.cell?_of_block (hk g hg)).trans (h7 j u hu)⟩
 hJ:=by
  rintro w w' cs xs S ⟨A,c,ecs,S',rfl,h1,h2,rfl⟩ hk
  refine⟨A,c,ecs,S',rfl,?_,Rows.fU h2 (fun k hk'=>hk k (Mc _ hk')),rfl⟩
  refine⟨h1.1,?_⟩
  rcases h1.2 with h | ⟨g,cap,cur,hv,hb,hg,rest⟩
  ·exact .inl h
  ·have hv':=hv
   injection hv' with hA _ _
   subst hA
   exact .inr ⟨g,cap,cur,hv,hb,(hk g (by simp[jQ])).trans hg,rest⟩
 jB:=by
  rintro w cs xs S ⟨A,c,ecs,S',rfl,h1,h2,rfl⟩ k hk
  rcases LG.1 hk with hk | hk
  ·cases A with
   | none=>simp[jQ] at hk
   | some a=>
    simp[jQ] at hk
    exact(h1.lt k (by simp[Nq,hk])).2
  ·exact Rows.lt h2 k hk
 OR:=by
  rintro w cs xs S B ⟨A,c,ecs,S',rfl,h1,h2,rfl⟩ hk
  obtain⟨hlen,hrest⟩:=h1
  rcases hrest with⟨hv,hn⟩ | ⟨g,cap,cur,hv,_,hg,hnc,hcm,hcs,htake⟩
  ·injection hv with hA _ hc
   subst hA hc
   exact⟨V,0,rfl,by omega,Lv _,fun _=>rfl,fun hp=>by omega⟩
  ·injection hv with hA _ hc
   subst hA hc
   refine⟨_,_,rfl,hnc,by simpa[maxLen] using hcm,fun h=>by simp at h,fun _=>⟨g,0,rfl,hk g (by simp[jQ]),fun i x hx=>?_⟩⟩
   obtain⟨ec,Sc,hO,hS,hget⟩:=Rows.get h2 hx
   refine⟨ec,T.OR hO (fun k hk'=>hk k (Mc _ (hS k hk'))),fun j u hu=>?_⟩
   rw[MD w g _ cur e (0,0) hg,Mb]
   have hj:=hget j u hu
   rw[<-htake,Nc] at hj
   split at hj
   ·simpa using hj
   ·cases hj
theorem jV {α:Type} {T:Ty α} {xs:Q α} (h:(T.sl e).R w B [v] xs):∃ A c,v=J A xs.length c/\xs.length<=c/\c<=9223372036854775807:=by
 obtain⟨A,c,h1,h2,h3,_⟩:=h;exact⟨A,c,by simpa using h1,h2,h3⟩
theorem om {α:Type} {T:Ty α} {xs:Q α} (h:(T.sl e).R w B [J A n c] xs){k:Nat}(hk:k<xs.length) :
  ∃ g off x ec,A=H ⟨g,off,V⟩/\g<B/\xs[k]?=H x/\T.R w B ec x/\∀ j u,ec[j]?=H u->Lg w ⟨g,off+k*T.size+j,V⟩=H u:=by
 obtain⟨A',c',h1,_,_,_,h5⟩:=h;obtain⟨g,off,rfl,hg,h6⟩:=h5 (by omega);injection h1 with h1 _
 injection h1 with h1 _ _
 have hx:xs[k]?=H xs[k]:=Lo hk;obtain⟨ec,h7,h8⟩:=h6 k _ hx;exact⟨g,off,xs[k],ec,h1,hg,hx,h7,h8⟩
theorem lR {xs:Q Int} (h:(zF.sl e).R w B [J A n c] xs){k:Nat}(hk:k<xs.length) :
  ∃ g off x,A=H ⟨g,off,V⟩/\xs[k]?=H x/\Lg w ⟨g,off+k,V⟩=H (F I x)/\-9223372036854775808<=x/\x<=9223372036854775807:=by
 obtain⟨g,off,x,ec,h1,_,h2,⟨rfl,b1,b2⟩,h4⟩:=om h hk;have:=h4 0 _ rfl;simp only[zF,Og,Nat.add_zero] at this;exact⟨g,off,x,h1,h2,this,b1,b2⟩
theorem qu {xs:Q D} (h:(iH.sl e).R w B [J A n c] xs){k:Nat}(hk:k<xs.length) :
  ∃ g off x,A=H ⟨g,off,V⟩/\xs[k]?=H x/\Lg w ⟨g,off+k,V⟩=H (G x)/\x.size<=9223372036854775807:=by
 obtain⟨g,off,x,ec,h1,_,h2,⟨rfl,b1⟩,h4⟩:=om h hk;have:=h4 0 _ rfl;simp only[iH,Og,Nat.add_zero] at this;exact⟨g,off,x,h1,h2,this,b1⟩
theorem pj (hg:w.heap[g]?=H (C cur e (0,0)))(i:Nat)(u:LA):(w.setCell ⟨g,i,V⟩ u).heap[g]?=H (C (cur.setIfInBounds i u) e (0,0)):=by
 simp[MH,Oy,hg]
theorem mN {α:Type} {T:Ty α} {xs:Q α} (h:(T.sl e).O w [J A n c] xs S)(hS:S.Nodup){k:Nat}{x:α}(hx:xs[k]?=H x) :
  ∃ g ec Sc,A=H ⟨g,0,V⟩/\g∈S/\g<w.heap.size/\g∉Sc/\(∀ j∈Sc,j∈S)/\Sc.Nodup/\T.O w ec x Sc/\(∀ j,LD w ⟨g,j,V⟩=U)/\(∀ j u,ec[j]?=H u->Lg w ⟨g,k*T.size+j,V⟩=H u)/\
   (∀ j u y,j<T.size->u.oneCell'=M->T.O w (ec.set j u) y Sc->(T.sl e).O (w.setCell ⟨g,k*T.size+j,V⟩ u) [J A n c] (xs.set k y) S/\fJ S w (w.setCell ⟨g,k*T.size+j,V⟩ u))/\
   (∀ w' y,fJ Sc w w'->T.O w' ec y Sc->(T.sl e).O w' [J A n c] (xs.set k y) S):=by
 obtain⟨A',c',aj,S',h1,h2,h3,rfl⟩:=h;injection h1 with h1 _
 injection h1 with hA hn hc
 subst hA hn hc;have hk:k<xs.length:=(Lh.1 hx).1;obtain⟨a,ec,b,Sa,Sc,Sb,rfl,rfl,hl,ha,hO,hb⟩:=Rows.part h3 hx;obtain⟨a5,a6⟩:=h2;rcases a6 with⟨_,hn⟩ | ⟨g,ai,a3,hv,a2,hg,ae,ab,ac,a1⟩
 ·omega
 ·injection hv with hA _ hc
  subst hA hc;have ad:g<w.heap.size:=(blt hg)
  simp only[jQ,List.singleton_append,NT,Ms,LG,not_or] at hS;obtain⟨⟨ag,a8,ah⟩,am,⟨aa,an,a7⟩,af⟩:=hS;have ak:ec.length=T.size:=T.iZ hO
  have al:(a++(ec++b)).length<=a3.size:=by
   rw[<-a1,MG];have:a3.toList.length=a3.size:=Mx;omega
  have a4:∀(j:Nat) (u:LA),(a++(ec++b))[j]?=H u->a3[j]?=H u:=by
   intro j u hu;rw[<-a1,Nc] at hu;split at hu
   ·simpa using hu
   ·cases hu
  refine⟨g,ec,Sc,rfl,by simp[jQ],ad,a8,fun j hj=>by simp[hj],aa,hO,fun j=>by simp[LD,hg],fun j u hu=>?_,fun j u y hj h1 hy=>?_,fun w' y ho hy=>?_⟩
  ·rw[MD w g _ a3 e (0,0) hg]
   apply a4;exact mT
  ·have a0:∀ i,i≠g->(w.setCell ⟨g,k*T.size+j,V⟩ u).heap[i]?=w.heap[i]?:=fun i hi=>OF w _ u i hi
   refine⟨⟨H ⟨g,0,V⟩,c,a++(ec.set j u++b),_,by rw[Ma],⟨?_,.inr ⟨g,c,a3.setIfInBounds (k*T.size+j) u,by rw[Ma],a2,pj hg _ _,by simpa using ae,ab,by simpa using ac,?_⟩⟩,Rows.join hx (Rows.fU ha ?_) (T.hJ hy ?_) (Rows.fU hb ?_),rfl⟩,?_⟩
   ·rw[Ma,<-a5]
    simp
   ·rw[Ma,Oh,List.take_set,a1,N9 _ _ (by omega),hl,Nat.add_sub_cancel_left,List.set_append_left _ _ (by omega)]
   ·exact fun i hi=>a0 i (fun e=>ag (e ▸ hi))
   ·exact fun i hi=>a0 i (fun e=>a8 (e ▸ hi))
   ·exact fun i hi=>a0 i (fun e=>ah (e ▸ hi))
   ·exact(fJ.refl _ _).setCell (by simp[jQ]) u
  ·have a9:∀ i,i<w.heap.size->i∉Sc->w'.heap[i]?=w.heap[i]?:=ho.block
   refine⟨H ⟨g,0,V⟩,c,a++(ec++b),_,by rw[Ma],⟨by rw[Ma,<-a5],.inr ⟨g,c,a3,by rw[Ma],a2,(a9 g ad a8).trans hg,by simpa using ae,ab,ac,by rw[Ma];exact a1⟩⟩,Rows.join hx (Rows.fU ha ?_) hy (Rows.fU hb ?_),rfl⟩
   ·exact fun i hi=>a9 i (Rows.lt ha i hi) (fun hc=>af i hi i (.inl hc) rfl)
   ·exact fun i hi=>a9 i (Rows.lt hb i hi) (fun hc=>a7 i hc i hi rfl)
theorem xM (w:N)(n:Nat):fF w (w.drewN n):=by
 induction n with
 | zero=>exact fF.refl _
 | succ n ih=>exact ih.drew
theorem fF.drewN {a b:N}(h:fF a b)(n:Nat):fF a (b.drewN n):=h.trans (xM _ _)
theorem lJ {α:Type} {xs:Q α} {x:α} (h:xs[k]?=H x):xs.take (k+1)=xs.take k++[x]:=by
 rw[ME,h];rfl
theorem zC {a:Mh} (h:w.cell? a=H v)(os:Array Obj)(d:Nat):(fO w os d).cell? a=H v:=by
 have hb:=MM w a h;rw[<-h];simp only[Lg,tC os d _ hb]
theorem zo {a:Mh} (h:w.cell? a=H v)(o:Obj):(w.alloc o).cell? a=H v:=by
 rw[BD];exact zC h _ _
theorem zb {a:Mh} (h:w.cell? a=H v):w.drew.cell? a=H v:=h
def gM {α:Type}(T:Ty α)(w w':N)(cs:Q LA)(x:α):Prop:=∃ S,T.O w' cs x S/\S.Nodup/\∀ b∈S,w.heap.size<=b
theorem gM.fO {α:Type} {T:Ty α} {x:α} (h:gM T w w1 cs x)(hg:fF w1 w2):gM T w w2 cs x:=by
 obtain⟨S,h1,h2,h3⟩:=h;exact⟨S,T.jl h1 hg,h2,h3⟩
theorem gM.since {α:Type} {T:Ty α} {x:α} (h:gM T w w1 cs x)(hg:w0.heap.size<=w.heap.size):gM T w0 w1 cs x:=by
 obtain⟨S,h1,h2,h3⟩:=h;exact⟨S,h1,h2,fun b hb=>LO hg (h3 b hb)⟩
theorem gM.read {α:Type}{T:Ty α}{w w1:N}{cs:Q LA}{x:α}(h:gM T w w1 cs x):T.R w1 w1.heap.size cs x:=by
 obtain⟨S,h1,_,_⟩:=h;exact T.read h1
def kv {α:Type}(T:Ty α)(W0:N)(hi:Nat)(W:N)(cs:Q LA)(x:α):Prop:=∃ S,T.O W cs x S/\S.Nodup/\∀ b∈S,W0.heap.size<=b/\b<hi
theorem gM.qC {α:Type} {T:Ty α} {x:α} (h:gM T w w1 cs x):kv T w w1.heap.size w1 cs x:=by
 obtain⟨S,h1,h2,h3⟩:=h;exact⟨S,h1,h2,fun b hb=>⟨h3 b hb,T.jB h1 b hb⟩⟩
theorem kv.fresh {α:Type} {T:Ty α} {x:α} (h:kv T w hi w1 cs x):gM T w w1 cs x:=by
 obtain⟨S,h1,h2,h3⟩:=h;exact⟨S,h1,h2,fun b hb=>(h3 b hb).1⟩
theorem sX {g:Prop} (f:g:=by
  obtain⟨S,h1,h2,h3⟩:=h
  exact⟨S,T.hJ h1 (fun k hk=>hs k (h3 k hk).1 (h3 k hk).2),h2,h3⟩):g:=f
theorem kv.same {α:Type} {T:Ty α} {x:α} (h:kv T w hi w1 cs x)(hs:gX w.heap.size hi w1 w2):kv T w hi w2 cs x:=by
 exact sX
theorem kv.fO {α:Type} {T:Ty α} {x:α} (h:kv T w hi w1 cs x)(hg:fF w1 w2):kv T w hi w2 cs x:=by
 obtain⟨S,h1,h2,h3⟩:=h;exact⟨S,T.jl h1 hg,h2,h3⟩
theorem kv.up {α:Type} {T:Ty α} {hi':Nat} {x:α} (h:kv T w hi w1 cs x)(hh:hi<=hi'):kv T w hi' w1 cs x:=by
 obtain⟨S,h1,h2,h3⟩:=h;exact⟨S,h1,h2,fun b hb=>⟨(h3 b hb).1,Li (h3 b hb).2 hh⟩⟩
theorem kv.read {α:Type}{T:Ty α}{w w1:N}{hi:Nat}{cs:Q LA}{x:α}(h:kv T w hi w1 cs x):T.R w1 w1.heap.size cs x:=h.fresh.read
theorem kv.since {α:Type} {T:Ty α} {x:α} (h:kv T w hi w1 cs x)(hg:w0.heap.size<=w.heap.size):kv T w0 hi w1 cs x:=by
 obtain⟨S,h1,h2,h3⟩:=h;exact⟨S,h1,h2,fun b hb=>⟨LO hg (h3 b hb).1,(h3 b hb).2⟩⟩
def nh {α:Type}(T:Ty α)(W0:N)(hi n:Nat)(W:N)(cs:Q LA)(x:α):Prop:=∃ S,T.O W cs x S/\S.Nodup/\∀ b∈S,(W0.heap.size<=b/\b<hi)∨n<=b
theorem nh.fresh {α:Type} {T:Ty α} {x:α} (h:nh T w hi n w1 cs x)(hn:w.heap.size<=n):gM T w w1 cs x:=by
 obtain⟨S,h1,h2,h3⟩:=h;exact⟨S,h1,h2,fun b hb=>by have:=h3 b hb;omega⟩
theorem sH {g:Prop} (f:g:=by
  obtain⟨S,h1,h2,h3⟩:=h
  refine⟨S,T.hJ h1 (fun k hk=>?_),h2,h3⟩
  rcases h3 k hk with h | h
  ·exact hs k h.1 h.2
  ·exact ht k h (T.jB h1 k hk)):g:=f
theorem nh.same {α:Type} {T:Ty α} {x:α} (h:nh T w hi n w1 cs x)(hs:gX w.heap.size hi w1 w2)(ht:gX n w1.heap.size w1 w2):nh T w hi n w2 cs x:=by
 exact sH
theorem nh.qC {α:Type}{T:Ty α}{w w1:N}{hi n:Nat}{cs:Q LA}{x:α}(h:nh T w hi n w1 cs x)(hn:w.heap.size<=n):kv T w w1.heap.size w1 cs x:=(h.fresh hn).qC
def wR {α:Type}(T:Ty α)(e:TypeId)(xs:Q α)(w:N)(r:Ending)(w':N):Prop:=∃ A c,r=.returned (J A xs.length c)/\gM (T.sl e) w w' [J A xs.length c] xs/\fF w w'
theorem qq {α:Type} {T:Ty α} {xs:Q α} (hg:w.heap[g]?=H (C cur e (0,0)))(hr:Rows T w cur.toList xs S)(hm:xs.length<=9223372036854775807) :
  (T.sl e).O w [J (H ⟨g,0,V⟩) xs.length xs.length] xs (g::S):=by
 have hl:=hr.len;rw[Mx] at hl;refine⟨_,_,cur.toList,S,rfl,⟨by rw[Mx];exact hl,.inr ⟨g,xs.length,cur,rfl,Lv _,hg,Lz _,by simpa[maxLen] using hm,hl,?_⟩⟩,hr,rfl⟩;rw[MA];rw[Mx];omega
theorem uy {P:Program} (t e:TypeId)(i:TypeInfo)(z:LA)(ht:P.underlying t=H (.slice e))(hi:P.info? e=H i)(hz:i.zero=H z)
  (kl kc:IntKind) (n c:Nat) (hnc:n<=c) (hbytes:i.bytes*c<=281474976710656) (h63:c<=9223372036854775807) (w:N) :
  (Instr.makeSlice t (F kl (n:Int)) (F kc (c:Int))).run P w=.ok (J (H ⟨w.heap.size,0,V⟩) n c) (w.alloc (C (Nm z.cells (c*i.size)) e)):=by
 have hb:(i.bytes:Int)*(c:Int)<=281474976710656:=by
  have h:((i.bytes*c:Nat):Int)<=281474976710656:=by omega
  rwa [Ni] at h
 have hr:=run_make (P:=P) w t e i z ht hi hz kl kc n c (by omega) (by omega) hb (by omega);simp only[Lw] at hr;exact hr
theorem xy (z:Array LA)(n:Nat):(Nm z n).size=n:=by simp[Nm]
theorem tg:x.toList=y.toList↔x=y:=by
 rw[Ok,Ok];constructor
 ·intro h
  cases x;cases y;simpa using h
 ·rintro rfl
  rfl
theorem Kv (h:¬ x=y):(!(x.toList == y.toList))=M:=by
 simp only[NW,Lk,ne_eq,tg];exact h
theorem mw (x y:D):(x.toList == y.toList)=decide (x=y):=by
 rw[OC];simp only[LM,tg,LQ]
theorem Kt {α:Type} {T:Ty α} {xs:Q α} (h:(T.sl e).R w B [J A n c] xs)(hk:k<=n) :
  (T.sl e).R w B [J A k c] (xs.take k):=by
 obtain⟨A',c',h1,h2,h3,h4,h5⟩:=h;injection h1 with h1 _
 injection h1 with hA hn hc
 subst hA hn hc;have hl:(xs.take k).length=k:=by rw[MG];omega
 refine⟨A,c,by rw[hl],by rw[hl];omega,h3,h4,fun hp=>?_⟩;rw[hl] at hp;obtain⟨g,a0,rfl,hg,h6⟩:=h5 (by omega);refine⟨g,a0,rfl,hg,fun i x hx=>?_⟩;rw[Nc] at hx;split at hx
 ·exact h6 i x hx
 ·cases hx
theorem ny {α:Type} (T:Ty α){w0 a b:N}{cs:Q LA}{x:α}{S S':Q Nat}(h:T.O w0 cs x S)(hs:fJ S' a b)(hg:fF w0 a)(hd:∀ k∈S,k∉S'):T.O b cs x S:=
 T.hJ (T.jl h hg) fun k hk=>hs.block k (T.jB (T.jl h hg) k hk) (hd k hk)
theorem KY {Lb Y:Nat} (_:∀ b∈S,Lb<=b)(h:∀ b∈S',Y<=b)(hxy:Lb<=Y):∀ b∈S',Lb<=b:=fun b hb=>LO hxy (h b hb)
theorem uq {A B:Q Nat} (h:(A++B).Nodup):A.Nodup/\B.Nodup/\(∀ k∈A,k∉B)/\(∀ k∈B,k∉A):=by
 rw[Ms] at h;exact⟨h.1,h.2.1,fun k ha hb=>h.2.2 k ha k hb rfl,fun k hb ha=>h.2.2 k ha k hb rfl⟩
theorem EK {A B:Q Nat} (h:(A++B++K7).Nodup):A.Nodup/\B.Nodup/\K7.Nodup/\(∀ k∈A,k∉B)/\(∀ k∈A,k∉K7)/\(∀ k∈B,k∉A)/\(∀ k∈B,k∉K7)/\(∀ k∈K7,k∉A)/\(∀ k∈K7,k∉B):=by
 obtain⟨h1,h2,h3,h4⟩:=uq h;obtain⟨a1,a2,a3,a4⟩:=uq h1;exact⟨a1,a2,h2,a3,fun k ha=>h3 k (LW _ ha),a4,fun k hb=>h3 k (Mc _ hb),fun k hc ha=>h4 k hc (LW _ ha),fun k hc hb=>h4 k hc (Mc _ hb)⟩
theorem EL {A B Lf:Q Nat} (h:(A++B++K7++Lf).Nodup):A.Nodup/\B.Nodup/\K7.Nodup/\Lf.Nodup/\(∀ k∈A,k∉B)/\(∀ k∈A,k∉K7)/\(∀ k∈A,k∉Lf)/\(∀ k∈B,k∉A)/\(∀ k∈B,k∉K7)/\(∀ k∈B,k∉Lf)/\(∀ k∈K7,k∉A)/\(∀ k∈K7,k∉B)/\(∀ k∈K7,k∉Lf)/\(∀ k∈Lf,k∉A)/\(∀ k∈Lf,k∉B)/\(∀ k∈Lf,k∉K7):=by
 obtain⟨h1,h2,h3,h4⟩:=uq h;obtain⟨a1,a2,a3,b1,b2,b3,b4,b5,b6⟩:=EK h1;refine⟨a1,a2,a3,h2,b1,b2,fun k hk=>h3 k (by simp[hk]),b3,b4,fun k hk=>h3 k (by simp[hk]),b5,b6,fun k hk=>h3 k (by simp[hk]),fun k hk ha=>h4 k hk (by simp[ha]),fun k hk ha=>h4 k hk (by simp[ha]),fun k hk ha=>h4 k hk (by simp[ha])⟩
theorem gG (h:fF a b:=by repeat with_reducible first | exact .refl _ | exact .lX _ _ _ | exact .lC _ _ _ _ | assumption | apply fF.more | apply fF.alloc | apply fF.drew | apply fF.drewN):fF a b:=h
theorem gF (h:fF a b:=by(repeat with_reducible first | exact .refl _ | exact .lX _ _ _ | exact .lC _ _ _ _ | assumption | apply fF.more | apply fF.alloc | apply fF.drew | apply fF.drewN);done):fF a b:=h
end Go.Proofs.YtiihkapmggfjkaaGreat
