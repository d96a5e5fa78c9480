/-
  PART.
-/
import Derived.WalkKit
import Derived.ProofKit
import Derived.OpenShut
import Derived.WalkSpells
import Derived.Below
import Derived.Carry
import Derived.ChangeOld
import Derived.Lib.Hide
import Derived.Maps.AppendAt
import Derived.Deep.AppendLies
import Derived.Deep.Draws
import Derived.Deep.Slices
import Derived.Deep.Fields
import Derived.Laws.OwnMore
import Derived.Laws.MakeOwn
import Derived.Laws.NewBlocks
import Derived.OwnWalk
import Derived.Test.YthgbglbaemelhaaGreatProg
import Derived.BigQuiet
import Derived.BigRegion
import Derived.Deep.QuietTactic
import Derived.RegionTactic
import Derived.Deep.RegionHeld3
import Derived.KernelRfl
set_option linter.unusedVariables false
set_option linter.unusedSimpArgs false
set_option maxRecDepth 100000
set_option maxHeartbeats 8000000
namespace Go.Proofs.YthgbglbaemelhaaGreat
open Value renaming slice->J,int->C,bool->X,string->Q,ownBlock->XF
open IntKind renaming i64->Z,wrap->Vl
open Option renaming none->I,some->F,map_some->Xp
open Obj renaming cells->U
open Bool renaming false->M,true->H
open Go renaming World->V,Calls->VK,Addr->VQ,TypeId->Wl,madeCells->WO,bytes->WZ,yielded->Xb
open World renaming cell?->Vg,frozen?->VE,setCell->Wc,alloc->WJ
open _root_.Int renaming toNat_natCast->Vy
open List renaming length_cons->VC,nil_append->Wo,take_succ_cons->Wz,cons_append->Xl,getElem_toArray->Zv
open Region renaming wanted->V6
open _root_.Array renaming length_toList->Wg
open RowKit renaming intOf->Wj,wrap64->Xr
open _root_.Nat renaming add_zero->Wk
open Builtin renaming append_->WS
open UInt8 renaming ofNat->WT
open Ending renaming returned->XA
open BitVec renaming ofInt->XP
open Instr renaming sliceAt->Yo
open Tryz
open Go.RowKit
abbrev D.{u}:=List.{u}
abbrev N.{u}:=Option.{u}
abbrev G:=ByteArray
abbrev Vh.{u}:=@List.getElem?_eq_some_iff.{u}
abbrev Vi.{u}:=@List.mem_singleton.{u}
abbrev Vj:=@Go.heap_alloc_new
abbrev Vk.{u}:=@List.length_append.{u}
abbrev Vm:=@And.intro
abbrev Vn:=@Nat.lt_of_lt_of_le
abbrev Vo.{u}:=@if_neg.{u}
abbrev Vp:=@decide_eq_false
abbrev Vq.{u}:=@List.getElem?_eq_getElem.{u}
abbrev Vr:=@Go.bodyPost_ret
abbrev Vs.{u}:=@if_pos.{u}
abbrev Vt:=@Bool.and_eq_true
abbrev Vu:=@Nat.zero_le
abbrev Vv:=@decide_eq_true
abbrev Vw.{u}:=@beq_eq_false_iff_ne.{u}
abbrev Vx.{u}:=@List.mem_of_getElem?.{u}
abbrev Vz:=@Nat.le_refl
abbrev VA.{u}:=@List.mem_append.{u}
abbrev VB.{u}:=@List.drop_eq_getElem_cons.{u}
abbrev VD:=@decide_eq_true_eq
abbrev VG.{u,v}:=@Option.bind_eq_some_iff.{u,v}
abbrev VH:=@Go.World.size_alloc
abbrev VI:=@Int.eq_ofNat_of_zero_le
abbrev VJ:=@Nat.zero_add
abbrev VL:=@Nat.le_trans
abbrev VM.{u}:=@List.append_assoc.{u}
abbrev VN.{u}:=@List.mem_append_left.{u}
abbrev VO.{u}:=@Option.some.injEq.{u}
abbrev VR.{u}:=@List.getD_eq_getElem?_getD.{u}
abbrev VT.{u}:=@List.mem_cons.{u}
abbrev VV.{u}:=@List.mem_append_right.{u}
abbrev VW.{u}:=@List.drop_length.{u}
abbrev VX.{u}:=@List.getElem?_append_right.{u}
abbrev VY.{u}:=@List.length_set.{u}
abbrev V4.{u}:=@beq_iff_eq.{u}
abbrev V5:=@ByteArray.size_append
abbrev Wb.{u}:=@List.nodup_append.{u}
abbrev Wf:=@Go.World.block_lt_of_cell?
abbrev Wh.{u}:=@List.getElem?_append_left.{u}
abbrev Wm:=@Bool.eq_false_or_eq_true
abbrev Wn.{u}:=@List.length_replicate.{u}
abbrev Wp:=@Go.bodyPost_end
abbrev Wr.{u}:=@List.take_add_one.{u}
abbrev Ws:=@Nat.sub_self
abbrev Wt.{u}:=@Array.getElem?_eq_some_iff.{u}
abbrev Wu.{u}:=@List.append_nil.{u}
abbrev Wy.{u}:=@List.getElem?_set_ne.{u}
abbrev WA:=@decide_eq_false_iff_not
abbrev WB.{u}:=@List.not_mem_nil.{u}
abbrev WC:=@Go.cell_of_row
abbrev WD.{u,v}:=@List.map_cons.{u,v}
abbrev WE.{u}:=@List.take_of_length_le.{u}
abbrev WF:=@ByteArray.append_assoc
abbrev WG.{u}:=@List.take_length.{u}
abbrev WH.{u}:=@List.mem_cons_of_mem.{u}
abbrev WI:=@Go.IntWalk.i64_in
abbrev WK.{u}:=@List.length_take.{u}
abbrev WL.{u}:=@List.length_drop.{u}
abbrev WN.{u}:=@List.getElem?_eq_none_iff.{u}
abbrev WP:=@Go.Value.slice.injEq
abbrev WQ.{u}:=@List.drop_zero.{u}
abbrev WR.{u}:=@List.drop_succ_cons.{u}
abbrev WU.{u}:=@List.getElem?_set_self.{u}
abbrev WV.{u,v}:=@Option.map_eq_some_iff.{u,v}
abbrev WW.{u}:=@List.mem_cons_self.{u}
abbrev WX:=@Bool.false_eq_true
abbrev WY.{u,v}:=@congrArg.{u,v}
abbrev Xa:=@ByteArray.data_append
abbrev Xd.{u,v}:=@Prod.mk.injEq.{u,v}
abbrev Xe.{u}:=@if_true.{u}
abbrev Xf:=@Nat.mul_le_mul_right
abbrev Xg.{u}:=@List.mem_or_eq_of_mem_set.{u}
abbrev Xh.{u}:=@List.getElem?_take.{u}
abbrev Xi.{u}:=@List.getElem?_drop.{u}
abbrev Xj:=@Int.add_zero
abbrev Xm.{u}:=@List.all_eq_true.{u}
abbrev Xn.{u}:=@Classical.choose_spec.{u}
abbrev Xo:=@Nat.mul_one
abbrev Xq.{u}:=@Array.getElem?_eq_none.{u}
abbrev Xs.{u}:=@List.any_eq_true.{u}
abbrev Xt:=@Go.info_parts
abbrev Xu.{u}:=@List.eq_nil_of_length_eq_zero.{u}
abbrev Xv:=@Int.le_refl
abbrev Xw.{u,v}:=@List.getElem?_map.{u,v}
abbrev Xx.{u}:=@List.drop_drop.{u}
abbrev Xy:=@or_false
abbrev XB.{u}:=@List.cons.injEq.{u}
abbrev XD.{u}:=@List.filter_cons.{u}
abbrev XE.{u}:=@Array.getElem?_append_left.{u}
abbrev XG.{u}:=@List.drop_eq_nil_of_le.{u}
abbrev XH:=@of_decide_eq_true
abbrev XI:=@Nat.lt_succ_of_lt
abbrev XJ.{u}:=@Array.toList_append.{u}
abbrev XK.{u}:=@List.getElem?_eq_none.{u}
abbrev XL:=@Nat.eq_zero_or_pos
abbrev XM:=@Int.add_sub_cancel
abbrev XN:=@Nat.succ_le_succ
abbrev XO:=@Go.Addr.add_lit
abbrev XQ.{u}:=@List.eq_of_mem_replicate.{u}
abbrev XR:=@and_true
abbrev XS.{u}:=@List.getElem?_of_mem.{u}
abbrev XT.{u}:=@List.length_eq_zero_iff.{u}
abbrev XU.{u}:=@List.all_append.{u}
abbrev XW.{u}:=@Array.getElem?_append_right.{u}
abbrev XX:=@Bool.true_and
abbrev XZ:=@Go.wpStill_nil
abbrev X4:=@Nat.le_add_right
abbrev X5.{u}:=@List.setIfInBounds_toArray.{u}
abbrev X6:=@Bool.and_eq_false_iff
abbrev X7.{u}:=@Array.getElem?_eq_getElem.{u}
abbrev X8.{u}:=@List.nodup_cons.{u}
abbrev X9.{u,v}:=@List.map_append.{u,v}
abbrev Ya:=@Bool.or_eq_true
abbrev Yb.{u,v}:=@List.length_map.{u,v}
abbrev Yc.{u,v}:=@List.mem_map.{u,v}
abbrev Ye:=@UInt8.toNat_ofNat_of_lt'
abbrev Yf:=@Nat.and_two_pow_sub_one_eq_mod
abbrev Yg.{u}:=@List.drop_left.{u}
abbrev Yi:=@Nat.add_mul
abbrev Yk:=@Nat.add_comm
abbrev Yl:=@Nat.le_of_eq
abbrev Ym.{u}:=@List.filter_eq_nil_iff.{u}
abbrev Yn.{u}:=@if_false.{u}
abbrev Yp:=@Nat.lt_irrefl
abbrev Yq:=@Nat.add_assoc
abbrev Yr:=@Bool.not_eq_true'
abbrev Ys:=@Nat.one_mul
abbrev Yt:=@Nat.pow_le_pow_right
abbrev Yu.{u}:=@List.mem_of_mem_take.{u}
abbrev Yv:=@true_and
abbrev Yy:=@Nat.ne_of_gt
abbrev Yz.{u}:=@List.getLast?_eq_getElem?.{u}
abbrev YA:=@Go.ByteArray.toList_eq
abbrev YB:=@Go.Addr.mk.injEq
abbrev YC.{u}:=@Array.ext_getElem?.{u}
abbrev YD:=@Go.RowKit.Below.heap_setCell
abbrev YE:=@Bool.true_eq_false
abbrev YF:=@decide_eq_true_iff
abbrev YG:=@of_decide_eq_false
abbrev YH:=@Nat.add_sub_cancel_left
abbrev YJ:=@Go.wpList_plain
abbrev YK:=@Nat.lt_trichotomy
abbrev YL:=@Nat.mul_comm
abbrev YM:=@ByteArray.size_extract
abbrev YO:=@Nat.ne_of_lt
abbrev YP.{u}:=@Array.getElem?_modify.{u}
abbrev YQ.{u}:=@List.set_append_right.{u}
abbrev YR.{u}:=@List.length_filter_le.{u}
abbrev YS:=@Nat.mod_eq_of_lt
abbrev YT:=@ByteArray.ext
abbrev YV:=@Go.World.cell?_of_block
abbrev YW.{u}:=@List.getElem?_append.{u}
abbrev YX.{u}:=@List.mem_of_mem_drop.{u}
abbrev YY:=@Nat.le_succ
abbrev YZ:=@Nat.not_lt_zero
abbrev Y0:=@Nat.zero_mul
abbrev Y4:=@Nat.lt_or_ge
abbrev Y5:=@Go.run_underlying
abbrev Y6:=@Nat.mod_lt
abbrev Y7:=@Nat.eq_or_lt_of_le
abbrev Y8:=@Int.tdiv_eq_ediv_of_nonneg
abbrev Y9:=@Int.tmod_eq_emod_of_nonneg
abbrev Za:=@Nat.mul_le_mul
abbrev Zb:=@Go.grownCap_le_maxLen
abbrev Zc.{u}:=@List.filter_append.{u}
abbrev Zd.{u}:=@List.getElem?_set.{u}
abbrev Ze.{u}:=@Array.size_append.{u}
abbrev Zf.{u}:=@List.ext_getElem?.{u}
abbrev Zg:=@Bool.eq_false_iff
abbrev Zh:=@Bool.and_true
abbrev Zi:=@Nat.succ_mul
abbrev Zj:=@Nat.le_of_lt
abbrev Zk:=@Bool.eq_iff_iff
abbrev Zl:=@Nat.min_eq_left
abbrev Zm:=@Bool.not_false
abbrev Zn:=@Bool.and_false
abbrev Zo:=@Go.getD_set_ne
abbrev Zp:=@and_assoc
abbrev Zq:=@Or.elim
variable {A:N VQ}{B WZ c d g hi j k m n:Nat}{P:Program}{S S':D Nat}{W W' W0 a b w w0 w1 w2:V}{cs:D Value}{cur:Array Value}{e e' t:Wl}{h i x:Int}{os:Array Obj}{v:Value}{xs:D Int}
theorem lay:(∀(a:Act)(t:Tmp)(v:Value),a.put (F t) v = { a with tmps:=a.tmps.setIfInBounds t v })/\(∀(a:Act)(v:Value),a.put I v=a)/\(∀(l:D Value)(i:Nat)(v:Value),l.toArray.setIfInBounds i v=(l.set i v).toArray)/\(∀(x v:Value)(l:D Value),(x::l).set 0 v=v::l)/\(∀(x v:Value)(l:D Value)(n:Nat),(x::l).set (n+1) v=x::l.set n v):=⟨fun _ _ _=>rfl,fun _ _=>rfl,fun _ _ _=>X5 ..,fun _ _ _=>rfl,fun _ _ _ _=>rfl⟩
theorem iw {n:Int} (h : -9223372036854775808<=n/\n<=9223372036854775807:=by omega):IntKind.i64.wrap n=n:=WI _ ⟨h.1,by omega⟩
theorem blt {o:Obj} (h:w.heap[g]?=F o):g<w.heap.size:=(Wt.1 h).1
theorem fk {p:Prop} (h:p):Hid p:=Lib.hid h
theorem iI:(∀(l:D Value)(i:Nat)(h:i<l.toArray.size),l.toArray[i]=l[i]'(by simpa using h))/\(∀(a:Value)(l:D Value)(i:Nat)(h:i+1<(a::l).length),(a::l)[i+1]=l[i]'(by simpa using h))/\(∀(a:Value)(l:D Value)(h:0<(a::l).length),(a::l)[0]=a)/\(∀(a:Act)(t:Tmp)(v:Value),a.put (F t) v = { a with tmps:=a.tmps.setIfInBounds t v })/\(∀(a:Act)(v:Value),a.put I v=a)/\(∀(l:D Value)(i:Nat)(v:Value),l.toArray.setIfInBounds i v=(l.set i v).toArray)/\(∀(x v:Value)(l:D Value),(x::l).set 0 v=v::l)/\(∀(x v:Value)(l:D Value)(n:Nat),(x::l).set (n+1) v=x::l.set n v):=⟨fun _ _ _=>Zv ..,fun _ _ _ _=>rfl,fun _ _ _=>rfl,lay⟩
theorem fh {p:Prop} (h:p:=by omega):p:=h
theorem gm {p:Prop} (h:p:=by simp):p:=h
theorem gv {p:Prop} (h:p:=by decide):p:=h
theorem io {p:Prop} (h:p:=by go_num):p:=h
theorem gU {p:Prop} (h:p:=by kernel_rfl):p:=h
theorem iC {p:Prop} (h:p:=by(simp[Wj];try omega)):p:=h
def fH (w:V)(os:Array Obj)(d:Nat):V:={ w with heap:=w.heap++os,drawn:=d }
section
variable {w:V}
theorem AD (os:Array Obj)(d n:Nat)(hn:n<w.heap.size):(fH w os d).heap[n]?=w.heap[n]?:=by
 simp only[fH];exact XE hn
@[simp,go_sem] theorem mJ (os:Array Obj) (d:Nat):(fH w os d).heap.size=w.heap.size+os.size:=by simp[fH]
@[go_sem] theorem UZ (os:Array Obj) (d:Nat):(fH w os d).tape=w.tape:=rfl
@[go_sem] theorem RM (os:Array Obj) (d n i:Nat) (hn:n<w.heap.size):(fH w os d).cell? ⟨n,i,I⟩=Vg w ⟨n,i,I⟩:=by
 simp only[Vg,AD os d n hn]
@[go_sem] theorem Iy (os:Array Obj) (d n i:Nat) (hn:n<w.heap.size):(fH w os d).frozen? ⟨n,i,I⟩=VE w ⟨n,i,I⟩:=by
 simp only[VE,AD os d n hn]
@[go_sem] theorem Ok (os:Array Obj) (d n i:Nat) (v:Value) (hn:n<w.heap.size):(fH w os d).setCell ⟨n,i,I⟩ v=fH (w.setCell ⟨n,i,I⟩ v) os d:=by
 unfold Wc fH;congr 1;apply YC;intro k;simp only[YP,Array.getElem?_append,Array.size_modify];by_cases hk:k=n
 ·subst hk
  simp[hn]
 ·have a0:¬ n=k:=fun e=>hk e.symm
  simp[a0]
theorem TT (os os':Array Obj)(d d':Nat):fH (fH w os d) os' d'=fH w (os++os') d':=by
 simp[fH]
@[go_sem] theorem UQ (os:Array Obj) (d:Nat):fH w.drew os d=fH w os d:=rfl
@[go_sem] theorem UW (n:Nat) (os:Array Obj) (d:Nat):fH (w.drewN n) os d=fH w os d:=rfl
theorem Bp (o:Obj):w.alloc o=fH w #[o] w.drawn:=by
 unfold fH WJ;simp
theorem Ht:w.drew=fH w #[] (w.drawn+1):=by
 unfold fH World.drew;simp
theorem Fx:w=fH w #[] w.drawn:=by simp[fH]
end
@[go_sem] theorem US {a b c:Nat} (h:a<b):(a<b+c)=True:=by simp;omega
@[go_sem] theorem UO (w:V) (n:Nat) (p:VQ) (v:Value):(w.drewN n).setCell p v=(w.setCell p v).drewN n:=rfl
@[go_sem] theorem UU (w:V) (n:Nat) (o:Obj):(w.drewN n).alloc o=(w.alloc o).drewN n:=rfl
def oC (n:Nat)(w:V):Prop:=n<w.heap.size
@[go_sem] theorem UX (n:Nat) (w:V) (o:Obj):oC n (w.alloc o)=(n=w.heap.size∨oC n w):=by
 unfold oC;rw[VH];exact propext ⟨fun h=>fh,fun h=>fh⟩
@[go_sem] theorem U1 (n:Nat) (w:V) (os:Array Obj) (d:Nat):oC n (fH w os d)=(oC n w∨(w.heap.size<=n/\n<w.heap.size+os.size)):=by
 unfold oC;rw[mJ];exact propext ⟨fun h=>fh,fun h=>fh⟩
@[go_sem] theorem U0 (n:Nat) (w:V):oC n w.drew=oC n w:=rfl
@[go_sem] theorem UY (n k:Nat) (w:V):oC n (w.drewN k)=oC n w:=rfl
@[go_sem] theorem UR (n:Nat) (w:V) (p:VQ) (v:Value):oC n (w.setCell p v)=oC n w:=by
 unfold oC;rw[World.size_setCell]
@[go_sem] theorem U2 {n:Nat} {w:V} (h:n<w.heap.size):oC n w=True:=eq_true h
section
variable {w:V}
@[go_sem] theorem UM (o:Obj) (n i:Nat) (hn:oC n w):(w.alloc o).cell? ⟨n,i,I⟩=Vg w ⟨n,i,I⟩:=World.cell?_alloc_past o n i hn
@[go_sem] theorem UL (o:Obj) (n i:Nat) (hn:oC n w):(w.alloc o).frozen? ⟨n,i,I⟩=VE w ⟨n,i,I⟩:=World.frozen?_alloc_past o n i hn
@[go_sem] theorem MD (o:Obj) (n i:Nat) (v:Value) (hn:oC n w):(w.alloc o).setCell ⟨n,i,I⟩ v=(w.setCell ⟨n,i,I⟩ v).alloc o:=World.setCell_alloc_past o n i v hn
@[go_sem] theorem UV (os:Array Obj) (d n i:Nat) (hn:oC n w):(fH w os d).cell? ⟨n,i,I⟩=Vg w ⟨n,i,I⟩:=RM os d n i hn
@[go_sem] theorem UN (os:Array Obj) (d n i:Nat) (hn:oC n w):(fH w os d).frozen? ⟨n,i,I⟩=VE w ⟨n,i,I⟩:=Iy os d n i hn
@[go_sem] theorem UP (os:Array Obj) (d n i:Nat) (v:Value) (hn:oC n w):(fH w os d).setCell ⟨n,i,I⟩ v=fH (w.setCell ⟨n,i,I⟩ v) os d:=Ok os d n i v hn
end
def fy (w w':V):Prop:=∃ os d,w'=fH w os d
theorem fy.refl (w:V):fy w w:=⟨_,_,Fx⟩
theorem fy.oE (a:V)(os:Array Obj)(d:Nat):fy (fH a.drew os d) (fH a os d):=fy.refl (fH a os d)
theorem fy.nP (a:V)(n:Nat)(os:Array Obj)(d:Nat):fy (fH (a.drewN n) os d) (fH a os d):=fy.refl (fH a os d)
theorem fy.of (w:V)(os:Array Obj)(d:Nat):fy w (fH w os d):=⟨_,_,rfl⟩
theorem fy.trans {c:V} (h:fy a b)(k:fy b c):fy a c:=by
 obtain⟨o,d,rfl⟩:=h;obtain⟨o',d',rfl⟩:=k;exact⟨_,_,TT _ _ _ _⟩
theorem fy.alloc {a b:V}(h:fy a b)(o:Obj):fy a (b.alloc o):=h.trans ⟨_,_,Bp o⟩
theorem fy.drew {a b:V}(h:fy a b):fy a b.drew:=h.trans ⟨_,_,Ht⟩
theorem fy.more (h:fy a b)(os:Array Obj)(d:Nat):fy a (fH b os d):=h.trans ⟨_,_,rfl⟩
theorem fy.size {a b:V}(h:fy a b):a.heap.size<=b.heap.size:=by
 obtain⟨o,d,rfl⟩:=h;rw[mJ];omega
theorem fy.block (h:fy a b){k:Nat}(hk:k<a.heap.size):b.heap[k]?=a.heap[k]?:=by
 obtain⟨o,d,rfl⟩:=h;exact AD _ _ _ hk
theorem fy.below (h:fy a b):Below a.heap.size a b:=by
 obtain⟨o,d,rfl⟩:=h;exact⟨rfl,rfl,rfl,by simp[fH],fun k hk=>AD _ _ _ hk⟩
theorem fy.lA (h:Below a.heap.size a b):fy a b:=by
 refine⟨b.heap.extract a.heap.size b.heap.size,b.drawn,?_⟩
 have hh:b.heap=a.heap++b.heap.extract a.heap.size b.heap.size:=by
  apply YC;intro k;rw[Array.getElem?_append];split
  ·rename_i hk
   exact h.block k hk
  ·rename_i hk
   rw[Array.getElem?_extract];have:=h.size;split
   ·congr 1
    omega
   ·rw[Xq]
    omega
 unfold fH;rw[<-hh];have h1:=h.os;have h2:=h.tape;have h3:=h.output;cases a;cases b;simp only at h1 h2 h3;subst h1 h2 h3;rfl
theorem fy.grown {W0 W w':V}{row:N Nat}(h:fy W0 W)(hg:W.grownBy w' row)(hr:∀ k,row=F k->W0.heap.size<=k):fy W0 w':=
 fy.lA (h.below.grown hg h.size hr)
theorem fy.setRow (h:fy W0 W){p:VQ}(hp:W0.heap.size<=p.block)(u:Value):fy W0 (W.setCell p u):=
 fy.lA (h.below.setCell hp u)
def gV (n m:Nat)(w w':V):Prop:=∀ k,n<=k->k<m->w'.heap[k]?=w.heap[k]?
theorem gV.refl (n m:Nat)(w:V):gV n m w w:=fun _ _ _=>rfl
theorem gV.base {d':Nat} (h:b.heap.size=a.heap.size)(hn:a.heap.size<=n):gV n m (fH a os d) (fH b os d'):=by
 intro k hk _;simp only[Go.Proofs.YthgbglbaemelhaaGreat.fH];rw[XW fh,XW fh,h]
theorem gV.more (h:gV n m a b)(hm:m<=b.heap.size)(os:Array Obj)(d:Nat):gV n m a (Go.Proofs.YthgbglbaemelhaaGreat.fH b os d):=
 fun k h1 h2=>(AD os d k fh).trans (h k h1 h2)
theorem gV.alloc {n m:Nat}{a b:V}(h:gV n m a b)(hm:m<=b.heap.size)(o:Obj):gV n m a (b.alloc o):=
 fun k h1 h2=>(Below.heap_alloc b o k fh).trans (h k h1 h2)
theorem gV.drew {n m:Nat}{a b:V}(h:gV n m a b):gV n m a b.drew:=h
theorem gV.drewN {n m k:Nat}{a b:V}(h:gV n m a b):gV n m a (b.drewN k):=h
theorem gV.fH (h:fy a b):gV n a.heap.size a b:=fun _ _ h2=>h.block h2
structure fG (S:D Nat)(w w':V):Prop where
 os:w'.os=w.os
 tape:w'.tape=w.tape
 output:w'.output=w.output
 size:w.heap.size<=w'.heap.size
 block:∀ k,k<w.heap.size->k∉S->w'.heap[k]?=w.heap[k]?
theorem fG.refl (S:D Nat)(w:V):fG S w w:=⟨rfl,rfl,rfl,Vz _,fun _ _ _=>rfl⟩
theorem fG.trans {S:D Nat}{a b c:V}(h:fG S a b)(k:fG S b c):fG S a c:=
 ⟨k.os.trans h.os,k.tape.trans h.tape,k.output.trans h.output,VL h.size k.size,fun i hi hn=>(k.block i (Vn hi h.size) hn).trans (h.block i hi hn)⟩
theorem fG.mono (h:fG S a b)(hs:∀ k∈S,k∈S'):fG S' a b:=
 ⟨h.os,h.tape,h.output,h.size,fun i hi hn=>h.block i hi (fun hm=>hn (hs i hm))⟩
theorem fy.only (h:fy a b)(S:D Nat):fG S a b:=by
 have hb:=h.below;exact⟨hb.os,hb.tape,hb.output,hb.size,fun k hk _=>hb.block k hk⟩
theorem fG.setCell {S:D Nat}{a b:V}(h:fG S a b){p:VQ}(hp:p.block∈S)(u:Value):fG S a (b.setCell p u):=
 h.trans ⟨rfl,rfl,rfl,gm,fun k _ hn=>YD _ _ _ _ (fun e=>hn (by rw[e];exact hp))⟩
theorem fG.cell {S:D Nat}{a b:V}(h:fG S a b){g:Nat}(hg:g<a.heap.size)(hn:g∉S)(i:Nat):Vg b ⟨g,i,I⟩=Vg a ⟨g,i,I⟩:=
 YV (h.block g hg hn)
theorem fG.frozen {S:D Nat}{a b:V}(h:fG S a b){g:Nat}(hg:g<a.heap.size)(hn:g∉S)(i:Nat):VE b ⟨g,i,I⟩=VE a ⟨g,i,I⟩:=
 World.frozen?_of_block (h.block g hg hn)
theorem fG.fH (h:fG S a b)(hg:fy W0 a)(hs:∀ k∈S,W0.heap.size<=k):fy W0 b:=
 fy.lA ⟨h.os.trans hg.below.os,h.tape.trans hg.below.tape,h.output.trans hg.below.output,VL hg.size h.size,fun k hk=>
  (h.block k (Vn hk hg.size) (fun hm=>by have:=hs k hm;omega)).trans (hg.block hk)⟩
structure Ty (α:Type) where
 size:Nat
 R:V->Nat->D Value->α->Prop
 O:V->D Value->α->D Nat->Prop
 mX:∀{w B cs x},R w B cs x->cs.length=size
 kQ:∀{w cs x S},O w cs x S->cs.length=size
 nt:∀{w cs x S},O w cs x S->∀ u∈cs,u.oneCell'=H
 nO:∀{w B cs x},R w B cs x->∀ u∈cs,u.oneCell'=H
 jz:∀{w w' B B' cs x},R w B cs x->(∀ k,k<B->w'.heap[k]?=w.heap[k]?)->B<=B'->R w' B' cs x
 iA:∀{w w' cs x S},O w cs x S->(∀ k∈S,w'.heap[k]?=w.heap[k]?)->O w' cs x S
 jQ:∀{w cs x S},O w cs x S->∀ k∈S,k<w.heap.size
 OR:∀{w cs x S B},O w cs x S->(∀ k∈S,k<B)->R w B cs x
theorem Ty.fH {α:Type} (T:Ty α){w w':V}{B:Nat}{cs:D Value}{x:α}(h:T.R w B cs x)(hg:fy w w')(hB:B<=w.heap.size):T.R w' B cs x:=
 T.jz h (fun _ hk=>hg.block fh) (Vz _)
theorem Ty.up {α:Type} (T:Ty α){w w':V}{cs:D Value}{x:α}(h:T.R w w.heap.size cs x)(hg:fy w w'):T.R w' w'.heap.size cs x:=
 T.jz h (fun _ hk=>hg.block hk) hg.size
theorem Ty.jG {α:Type} (T:Ty α){w w':V}{cs:D Value}{x:α}{S:D Nat}(h:T.O w cs x S)(hg:fy w w'):T.O w' cs x S:=
 T.iA h fun _ hk=>hg.block (T.jQ h _ hk)
theorem Ty.same {α:Type} (T:Ty α){w w':V}{cs:D Value}{x:α}{S:D Nat}{n:Nat}(h:T.O w cs x S)(hL:∀ b∈S,n<=b)(hs:gV n w.heap.size w w'):T.O w' cs x S:=
 T.iA h fun k hk=>hs k (hL k hk) (T.jQ h k hk)
theorem Ty.read {α:Type} (T:Ty α){w:V}{cs:D Value}{x:α}{S:D Nat}(h:T.O w cs x S):T.R w w.heap.size cs x:=T.OR h (T.jQ h)
def fQ (x:Int):Prop:=-9223372036854775808<=x/\x<=9223372036854775807
def zv:Ty Int where
 size:=1
 R:=fun _ _ cs x=>cs = [C Z x]/\-9223372036854775808<=x/\x<=9223372036854775807
 O:=fun _ cs x S=>cs = [C Z x]/\-9223372036854775808<=x/\x<=9223372036854775807/\S = []
 mX:=by rintro _ _ _ _ ⟨rfl,_⟩;rfl
 kQ:=by rintro _ _ _ _ ⟨rfl,_⟩;rfl
 nt:=by rintro _ _ _ _ ⟨rfl,_⟩ u hu;simp at hu;subst hu;rfl
 nO:=by rintro _ _ _ _ ⟨rfl,_⟩ u hu;simp at hu;subst hu;rfl
 jz:=by rintro _ _ _ _ _ _ h _ _;exact h
 iA:=by rintro _ _ _ _ _ h _;exact h
 jQ:=by rintro _ _ _ _ ⟨_,_,_,rfl⟩ k hk;simp at hk
 OR:=by rintro _ _ _ _ _ ⟨h1,h2,h3,_⟩ _;exact⟨h1,h2,h3⟩
def BZ:Ty Bool where
 size:=1
 R:=fun _ _ cs x=>cs = [X x]
 O:=fun _ cs x S=>cs = [X x]/\S = []
 mX:=by rintro _ _ _ _ rfl;rfl
 kQ:=by rintro _ _ _ _ ⟨rfl,_⟩;rfl
 nt:=by rintro _ _ _ _ ⟨rfl,_⟩ u hu;simp at hu;subst hu;rfl
 nO:=by rintro _ _ _ _ rfl u hu;simp at hu;subst hu;rfl
 jz:=by rintro _ _ _ _ _ _ h _ _;exact h
 iA:=by rintro _ _ _ _ _ h _;exact h
 jQ:=by rintro _ _ _ _ ⟨_,rfl⟩ k hk;simp at hk
 OR:=by rintro _ _ _ _ _ ⟨h1,_⟩ _;exact h1
def jB:Ty G where
 size:=1
 R:=fun _ _ cs x=>cs = [Q x]/\x.size<=9223372036854775807
 O:=fun _ cs x S=>cs = [Q x]/\x.size<=9223372036854775807/\S = []
 mX:=by rintro _ _ _ _ ⟨rfl,_⟩;rfl
 kQ:=by rintro _ _ _ _ ⟨rfl,_⟩;rfl
 nt:=by rintro _ _ _ _ ⟨rfl,_⟩ u hu;simp at hu;subst hu;rfl
 nO:=by rintro _ _ _ _ ⟨rfl,_⟩ u hu;simp at hu;subst hu;rfl
 jz:=by rintro _ _ _ _ _ _ h _ _;exact h
 iA:=by rintro _ _ _ _ _ h _;exact h
 jQ:=by rintro _ _ _ _ ⟨_,_,rfl⟩ k hk;simp at hk
 OR:=by rintro _ _ _ _ _ ⟨h1,h2,_⟩ _;exact⟨h1,h2⟩
def Ty.prod {α β:Type}(T:Ty α)(U7:Ty β):Ty (α × β) where
 size:=T.size+U7.size
 R:=fun w B cs x=>∃ c1 c2,cs=c1++c2/\T.R w B c1 x.1/\U7.R w B c2 x.2
 O:=fun w cs x S=>∃ c1 c2 S1 S2,cs=c1++c2/\S=S1++S2/\T.O w c1 x.1 S1/\U7.O w c2 x.2 S2
 mX:=by rintro _ _ _ _ ⟨c1,c2,rfl,h1,h2⟩;simp[T.mX h1,U7.mX h2]
 kQ:=by rintro _ _ _ _ ⟨c1,c2,_,_,rfl,_,h1,h2⟩;simp[T.kQ h1,U7.kQ h2]
 nt:=by
  rintro _ _ _ _ ⟨c1,c2,_,_,rfl,_,h1,h2⟩ u hu
  rcases VA.1 hu with hu | hu
  ·exact T.nt h1 u hu
  ·exact U7.nt h2 u hu
 nO:=by
  rintro _ _ _ _ ⟨c1,c2,rfl,h1,h2⟩ u hu
  rcases VA.1 hu with hu | hu
  ·exact T.nO h1 u hu
  ·exact U7.nO h2 u hu
 jz:=by rintro _ _ _ _ _ _ ⟨c1,c2,rfl,h1,h2⟩ hk hB;exact⟨c1,c2,rfl,T.jz h1 hk hB,U7.jz h2 hk hB⟩
 iA:=by
  rintro _ _ _ _ _ ⟨c1,c2,S1,S2,rfl,rfl,h1,h2⟩ hk
  exact⟨c1,c2,S1,S2,rfl,rfl,T.iA h1 (fun k hk1=>hk k (VN _ hk1)),U7.iA h2 (fun k hk2=>hk k (VV _ hk2))⟩
 jQ:=by
  rintro _ _ _ _ ⟨c1,c2,S1,S2,rfl,rfl,h1,h2⟩ k hk
  rcases VA.1 hk with hk | hk
  ·exact T.jQ h1 k hk
  ·exact U7.jQ h2 k hk
 OR:=by
  rintro _ _ _ _ _ ⟨c1,c2,S1,S2,rfl,rfl,h1,h2⟩ hk
  exact⟨c1,c2,rfl,T.OR h1 (fun k hk1=>hk k (VN _ hk1)),U7.OR h2 (fun k hk2=>hk k (VV _ hk2))⟩
def Ty.via {α β:Type}(T:Ty α)(f:β->α):Ty β where
 size:=T.size
 R:=fun w B cs x=>T.R w B cs (f x)
 O:=fun w cs x S=>T.O w cs (f x) S
 mX:=T.mX
 kQ:=T.kQ
 nt:=T.nt
 nO:=T.nO
 jz:=T.jz
 iA:=T.iA
 jQ:=T.jQ
 OR:=T.OR
def gz {α:Type}(T:Ty α)(w:V):D Value->D α->D Nat->Prop
 | cs,[],S=>cs = []/\S = []
 | cs,x::xs,S=>∃ c1 c2 S1 S2,cs=c1++c2/\S=S1++S2/\T.O w c1 x S1/\gz T w c2 xs S2
section
variable {α:Type} {T:Ty α} {w w':V}
theorem gz.len:∀{xs:D α}{cs:D Value}{S:D Nat},gz T w cs xs S->cs.length=xs.length*T.size
 | [],_,_,h=>by simp[h.1]
 | x::xs,_,_,⟨c1,c2,S1,S2,h1,_,h3,h4⟩=>by
  subst h1;rw[Vk,T.kQ h3,gz.len h4,VC,Yi,Ys,Yk]
theorem gz.one:∀{xs:D α}{cs:D Value}{S:D Nat},gz T w cs xs S->∀ u∈cs,u.oneCell'=H
 | [],_,_,h=>by simp[h.1]
 | x::xs,_,_,⟨c1,c2,S1,S2,h1,_,h3,h4⟩=>by
  subst h1;intro u hu;rcases VA.1 hu with hu | hu
  ·exact T.nt h3 u hu
  ·exact gz.one h4 u hu
theorem gz.gu:∀{xs:D α}{cs:D Value}{S:D Nat},gz T w cs xs S->(∀ k∈S,w'.heap[k]?=w.heap[k]?)->gz T w' cs xs S
 | [],_,_,h,_=>h
 | x::xs,_,_,⟨c1,c2,S1,S2,h1,h2,h3,h4⟩,hk=>by
  subst h2;exact⟨c1,c2,S1,S2,h1,rfl,T.iA h3 (fun k hk1=>hk k (VN _ hk1)),gz.gu h4 (fun k hk2=>hk k (VV _ hk2))⟩
theorem gz.lt:∀{xs:D α}{cs:D Value}{S:D Nat},gz T w cs xs S->∀ k∈S,k<w.heap.size
 | [],_,_,h=>by simp[h.2]
 | x::xs,_,_,⟨c1,c2,S1,S2,h1,h2,h3,h4⟩=>by
  subst h2;intro k hk;rcases VA.1 hk with hk | hk
  ·exact T.jQ h3 k hk
  ·exact gz.lt h4 k hk
theorem gz.snoc:∀{xs:D α}{cs:D Value}{S:D Nat},gz T w cs xs S->∀{c:D Value}{x:α}{S':D Nat},T.O w c x S'->gz T w (cs++c) (xs++[x]) (S++S')
 | [],_,_,h,c,x,S',hx=>by
  obtain⟨rfl,rfl⟩:=h;exact⟨c,[],S',[],gm,gm,hx,rfl,rfl⟩
 | y::ys,_,_,⟨c1,c2,S1,S2,h1,h2,h3,h4⟩,c,x,S',hx=>by
  subst h1 h2;exact⟨c1,c2++c,S1,S2++S',gm,gm,h3,gz.snoc h4 hx⟩
theorem gz.l5:∀{xs:D α}{cs:D Value}{S:D Nat},gz T w cs xs S->∀{ys:D α}{ds:D Value}{S':D Nat},gz T w ds ys S'->gz T w (cs++ds) (xs++ys) (S++S')
 | [],_,_,h,ys,ds,S',hy=>by
  obtain⟨rfl,rfl⟩:=h;simpa using hy
 | x::xs,_,_,⟨c1,c2,S1,S2,h1,h2,h3,h4⟩,ys,ds,S',hy=>by
  subst h1 h2;exact⟨c1,c2++ds,S1,S2++S',gm,gm,h3,gz.l5 h4 hy⟩
theorem gz.part:∀{k:Nat}{xs:D α}{cs:D Value}{S:D Nat},gz T w cs xs S->∀{x:α},xs[k]?=F x->
  ∃ a c b Sa Sc Sb,cs=a++(c++b)/\S=Sa++(Sc++Sb)/\a.length=k*T.size/\gz T w a (xs.take k) Sa/\T.O w c x Sc/\gz T w b (xs.drop (k+1)) Sb
 | _,[],_,_,_,x,hx=>by simp at hx
 | 0,y::ys,_,_,⟨c1,c2,S1,S2,h1,h2,h3,h4⟩,x,hx=>by
  simp at hx;subst hx;exact⟨[],c1,c2,[],S1,S2,by simp[h1],by simp[h2],by simp,⟨rfl,rfl⟩,h3,by simpa using h4⟩
 | k+1,y::ys,_,_,⟨c1,c2,S1,S2,h1,h2,h3,h4⟩,x,hx=>by
  obtain⟨a,c,b,Sa,Sc,Sb,e1,e2,e3,ha,hc,hb⟩:=gz.part h4 (k:=k) (x:=x) (by simpa using hx);subst h1 h2 e1 e2;refine⟨c1++a,c,b,S1++Sa,Sc,Sb,by simp,by simp,?_,?_,hc,?_⟩
  ·rw[Vk,T.kQ h3,e3,Yi,Ys,Yk]
  ·exact⟨c1,a,S1,Sa,rfl,rfl,h3,ha⟩
  ·simpa using hb
theorem gz.join {xs:D α} {a c b:D Value} {Sa Sc Sb:D Nat} {x y:α} (hx:xs[k]?=F x)(ha:gz T w a (xs.take k) Sa)(hc:T.O w c y Sc)(hb:gz T w b (xs.drop (k+1)) Sb) :
  gz T w (a++(c++b)) (xs.set k y) (Sa++(Sc++Sb)):=by
 have hk:k<xs.length:=(Vh.1 hx).1
 have e:xs.set k y=xs.take k++([y]++xs.drop (k+1)):=by
  rw[List.set_eq_take_append_cons_drop,Vs hk];rfl
 rw[e];exact gz.l5 ha (gz.l5 (show gz T w c [y] Sc from⟨c,[],Sc,[],by simp,by simp,hc,rfl,rfl⟩) hb)
theorem xY {g:Prop} (f:g:=by
  rw[VX fh,hl,YH,Wh (Vh.1 hu).1]
  exact hu):g:=f
theorem gz.get {xs:D α} (h:gz T w cs xs S){x:α}(hx:xs[k]?=F x) :
  ∃ c Sc,T.O w c x Sc/\(∀ j∈Sc,j∈S)/\∀ j u,c[j]?=F u->cs[k*T.size+j]?=F u:=by
 obtain⟨a,c,b,Sa,Sc,Sb,rfl,rfl,hl,_,hc,_⟩:=h.part hx;refine⟨c,Sc,hc,fun j hj=>by simp[hj],fun j u hu=>?_⟩;exact xY
end
def lT:N VQ->D Nat
 | some a=>[a.block]
 | none=>[]
def Ty.sl {α:Type}(T:Ty α)(e:Wl):Ty (D α) where
 size:=1
 R:=fun w B cs xs=>∃ A c,cs = [J A xs.length c]/\xs.length<=c/\c<=9223372036854775807/\(A=I->c=0)/\
  (0<xs.length->∃ g off,A=F ⟨g,off,I⟩/\g<B/\∀ i x,xs[i]?=F x->∃ ec,T.R w B ec x/\∀ j u,ec[j]?=F u->Vg w ⟨g,off+i*T.size+j,I⟩=F u)
 O:=fun w cs xs S=>∃ A c ecs S',cs = [J A xs.length c]/\w.ownsRow 0 e T.size (J A xs.length c) xs.length ecs/\gz T w ecs xs S'/\S=lT A++S'
 mX:=by rintro _ _ _ _ ⟨A,c,rfl,_⟩;rfl
 kQ:=by rintro _ _ _ _ ⟨A,c,_,_,rfl,_⟩;rfl
 nt:=by rintro _ _ _ _ ⟨A,c,_,_,rfl,_⟩ u hu;simp at hu;subst hu;rfl
 nO:=by rintro _ _ _ _ ⟨A,c,rfl,_⟩ u hu;simp at hu;subst hu;rfl
 jz:=by
  rintro w w' B B' cs xs ⟨A,c,rfl,h1,h2,h3,h4⟩ hk hB
  refine⟨A,c,rfl,h1,h2,h3,fun hp=>?_⟩
  obtain⟨g,off,rfl,hg,h5⟩:=h4 hp
  refine⟨g,off,rfl,by omega,fun i x hx=>?_⟩
  obtain⟨ec,h6,h7⟩:=h5 i x hx
  exact⟨ec,T.jz h6 hk hB,fun j u hu=>(YV (hk g hg)).trans (h7 j u hu)⟩
 iA:=by
  rintro w w' cs xs S ⟨A,c,ecs,S',rfl,h1,h2,rfl⟩ hk
  refine⟨A,c,ecs,S',rfl,?_,gz.gu h2 (fun k hk'=>hk k (VV _ hk')),rfl⟩
  refine⟨h1.1,?_⟩
  rcases h1.2 with h | ⟨g,cap,cur,hv,hb,hg,rest⟩
  ·exact .inl h
  ·have hv':=hv
   injection hv' with hA _ _
   subst hA
   exact .inr ⟨g,cap,cur,hv,hb,(hk g (by simp[lT])).trans hg,rest⟩
 jQ:=by
  rintro w cs xs S ⟨A,c,ecs,S',rfl,h1,h2,rfl⟩ k hk
  rcases VA.1 hk with hk | hk
  ·cases A with
   | none=>simp[lT] at hk
   | some a=>
    simp[lT] at hk
    exact(h1.lt k (by simp[XF,hk])).2
  ·exact gz.lt h2 k hk
 OR:=by
  rintro w cs xs S B ⟨A,c,ecs,S',rfl,h1,h2,rfl⟩ hk
  obtain⟨hlen,hrest⟩:=h1
  rcases hrest with⟨hv,hn⟩ | ⟨g,cap,cur,hv,_,hg,hnc,hcm,hcs,htake⟩
  ·injection hv with hA _ hc
   subst hA hc
   exact⟨I,0,rfl,by omega,Vu _,fun _=>rfl,fun hp=>by omega⟩
  ·injection hv with hA _ hc
   subst hA hc
   refine⟨_,_,rfl,hnc,by simpa[maxLen] using hcm,fun h=>by simp at h,fun _=>⟨g,0,rfl,hk g (by simp[lT]),fun i x hx=>?_⟩⟩
   obtain⟨ec,Sc,hO,hS,hget⟩:=gz.get h2 hx
   refine⟨ec,T.OR hO (fun k hk'=>hk k (VV _ (hS k hk'))),fun j u hu=>?_⟩
   rw[WC w g _ cur e (0,0) hg,VJ]
   have hj:=hget j u hu
   rw[<-htake,Xh] at hj
   split at hj
   ·simpa using hj
   ·cases hj
theorem mQ {α:Type} {T:Ty α} {xs:D α} (h:(T.sl e).R w B [v] xs):∃ A c,v=J A xs.length c/\xs.length<=c/\c<=9223372036854775807:=by
 obtain⟨A,c,h1,h2,h3,_⟩:=h;exact⟨A,c,by simpa using h1,h2,h3⟩
theorem pz {α:Type} {T:Ty α} {xs:D α} (h:(T.sl e).R w B [J A n c] xs){k:Nat}(hk:k<xs.length) :
  ∃ g off x ec,A=F ⟨g,off,I⟩/\g<B/\xs[k]?=F x/\T.R w B ec x/\∀ j u,ec[j]?=F u->Vg w ⟨g,off+k*T.size+j,I⟩=F u:=by
 obtain⟨A',c',h1,_,_,_,h5⟩:=h;obtain⟨g,off,rfl,hg,h6⟩:=h5 (by omega);injection h1 with h1 _
 injection h1 with h1 _ _
 have hx:xs[k]?=F xs[k]:=Vq hk;obtain⟨ec,h7,h8⟩:=h6 k _ hx;exact⟨g,off,xs[k],ec,h1,hg,hx,h7,h8⟩
theorem ma (h:(zv.sl e).R w B [J A n c] xs){k:Nat}(hk:k<xs.length) :
  ∃ g off x,A=F ⟨g,off,I⟩/\xs[k]?=F x/\Vg w ⟨g,off+k,I⟩=F (C Z x)/\-9223372036854775808<=x/\x<=9223372036854775807:=by
 obtain⟨g,off,x,ec,h1,_,h2,⟨rfl,b1,b2⟩,h4⟩:=pz h hk;have:=h4 0 _ rfl;simp only[zv,Xo,Wk] at this;exact⟨g,off,x,h1,h2,this,b1,b2⟩
theorem yG {xs:D G} (h:(jB.sl e).R w B [J A n c] xs){k:Nat}(hk:k<xs.length) :
  ∃ g off x,A=F ⟨g,off,I⟩/\xs[k]?=F x/\Vg w ⟨g,off+k,I⟩=F (Q x)/\x.size<=9223372036854775807:=by
 obtain⟨g,off,x,ec,h1,_,h2,⟨rfl,b1⟩,h4⟩:=pz h hk;have:=h4 0 _ rfl;simp only[jB,Xo,Wk] at this;exact⟨g,off,x,h1,h2,this,b1⟩
theorem py (hg:w.heap[g]?=F (U cur e (0,0)))(i:Nat)(u:Value):(w.setCell ⟨g,i,I⟩ u).heap[g]?=F (U (cur.setIfInBounds i u) e (0,0)):=by
 simp[Wc,YP,hg]
theorem sA {α:Type} {T:Ty α} {xs:D α} (h:(T.sl e).O w [J A n c] xs S)(hS:S.Nodup){k:Nat}{x:α}(hx:xs[k]?=F x) :
  ∃ g ec Sc,A=F ⟨g,0,I⟩/\g∈S/\g<w.heap.size/\g∉Sc/\(∀ j∈Sc,j∈S)/\Sc.Nodup/\T.O w ec x Sc/\(∀ j,VE w ⟨g,j,I⟩=M)/\(∀ j u,ec[j]?=F u->Vg w ⟨g,k*T.size+j,I⟩=F u)/\
   (∀ j u y,j<T.size->u.oneCell'=H->T.O w (ec.set j u) y Sc->(T.sl e).O (w.setCell ⟨g,k*T.size+j,I⟩ u) [J A n c] (xs.set k y) S/\fG S w (w.setCell ⟨g,k*T.size+j,I⟩ u))/\
   (∀ w' y,fG Sc w w'->T.O w' ec y Sc->(T.sl e).O w' [J A n c] (xs.set k y) S):=by
 obtain⟨A',c',aj,S',h1,h2,h3,rfl⟩:=h;injection h1 with h1 _
 injection h1 with hA hn hc
 subst hA hn hc;have hk:k<xs.length:=(Vh.1 hx).1;obtain⟨a,ec,b,Sa,Sc,Sb,rfl,rfl,hl,ha,hO,hb⟩:=gz.part h3 hx;obtain⟨a5,a6⟩:=h2;rcases a6 with⟨_,hn⟩ | ⟨g,ai,a3,hv,a2,hg,ae,ab,ac,a1⟩
 ·omega
 ·injection hv with hA _ hc
  subst hA hc;have ad:g<w.heap.size:=(blt hg)
  simp only[lT,List.singleton_append,X8,Wb,VA,not_or] at hS;obtain⟨⟨ag,a8,ah⟩,am,⟨aa,an,a7⟩,af⟩:=hS;have ak:ec.length=T.size:=T.kQ hO
  have al:(a++(ec++b)).length<=a3.size:=by
   rw[<-a1,WK];have:a3.toList.length=a3.size:=Wg;omega
  have a4:∀(j:Nat) (u:Value),(a++(ec++b))[j]?=F u->a3[j]?=F u:=by
   intro j u hu;rw[<-a1,Xh] at hu;split at hu
   ·simpa using hu
   ·cases hu
  refine⟨g,ec,Sc,rfl,by simp[lT],ad,a8,fun j hj=>by simp[hj],aa,hO,fun j=>by simp[VE,hg],fun j u hu=>?_,fun j u y hj h1 hy=>?_,fun w' y ho hy=>?_⟩
  ·rw[WC w g _ a3 e (0,0) hg]
   apply a4;rw[VX (by omega),hl,YH,Wh (Vh.1 hu).1];exact hu
  ·have a0:∀ i,i≠g->(w.setCell ⟨g,k*T.size+j,I⟩ u).heap[i]?=w.heap[i]?:=fun i hi=>YD w _ u i hi
   refine⟨⟨F ⟨g,0,I⟩,c,a++(ec.set j u++b),_,by rw[VY],⟨?_,.inr ⟨g,c,a3.setIfInBounds (k*T.size+j) u,by rw[VY],a2,py hg _ _,by simpa using ae,ab,by simpa using ac,?_⟩⟩,gz.join hx (gz.gu ha ?_) (T.iA hy ?_) (gz.gu hb ?_),rfl⟩,?_⟩
   ·rw[VY,<-a5]
    simp
   ·rw[VY,Array.toList_setIfInBounds,List.take_set,a1,YQ _ _ (by omega),hl,YH,List.set_append_left _ _ (by omega)]
   ·exact fun i hi=>a0 i (fun e=>ag (e ▸ hi))
   ·exact fun i hi=>a0 i (fun e=>a8 (e ▸ hi))
   ·exact fun i hi=>a0 i (fun e=>ah (e ▸ hi))
   ·exact(fG.refl _ _).setCell (by simp[lT]) u
  ·have a9:∀ i,i<w.heap.size->i∉Sc->w'.heap[i]?=w.heap[i]?:=ho.block
   refine⟨F ⟨g,0,I⟩,c,a++(ec++b),_,by rw[VY],⟨by rw[VY,<-a5],.inr ⟨g,c,a3,by rw[VY],a2,(a9 g ad a8).trans hg,by simpa using ae,ab,ac,by rw[VY];exact a1⟩⟩,gz.join hx (gz.gu ha ?_) hy (gz.gu hb ?_),rfl⟩
   ·exact fun i hi=>a9 i (gz.lt ha i hi) (fun hc=>af i hi i (.inl hc) rfl)
   ·exact fun i hi=>a9 i (gz.lt hb i hi) (fun hc=>a7 i hc i hi rfl)
theorem N7 (w:V)(n:Nat):fy w (w.drewN n):=by
 induction n with
 | zero=>exact fy.refl _
 | succ n ih=>exact ih.drew
theorem fy.drewN {a b:V}(h:fy a b)(n:Nat):fy a (b.drewN n):=h.trans (N7 _ _)
theorem yB {α:Type} {xs:D α} {x:α} (h:xs[k]?=F x):xs.take (k+1)=xs.take k++[x]:=by
 rw[Wr,h];rfl
theorem zd {a:VQ} (h:w.cell? a=F v)(os:Array Obj)(d:Nat):(fH w os d).cell? a=F v:=by
 have hb:=Wf w a h;rw[<-h];simp only[Vg,AD os d _ hb]
theorem zq {a:VQ} (h:w.cell? a=F v)(o:Obj):(w.alloc o).cell? a=F v:=by
 rw[Bp];exact zd h _ _
theorem zc {a:VQ} (h:w.cell? a=F v):w.drew.cell? a=F v:=h
def gH {α:Type}(T:Ty α)(w w':V)(cs:D Value)(x:α):Prop:=∃ S,T.O w' cs x S/\S.Nodup/\∀ b∈S,w.heap.size<=b
theorem gH.fH {α:Type} {T:Ty α} {x:α} (h:gH T w w1 cs x)(hg:fy w1 w2):gH T w w2 cs x:=by
 obtain⟨S,h1,h2,h3⟩:=h;exact⟨S,T.jG h1 hg,h2,h3⟩
theorem gH.ri {α:Type} {T:Ty α} {x:α} (h:gH T w w1 cs x)(hg:w0.heap.size<=w.heap.size):gH T w0 w1 cs x:=by
 obtain⟨S,h1,h2,h3⟩:=h;exact⟨S,h1,h2,fun b hb=>VL hg (h3 b hb)⟩
theorem gH.read {α:Type}{T:Ty α}{w w1:V}{cs:D Value}{x:α}(h:gH T w w1 cs x):T.R w1 w1.heap.size cs x:=by
 obtain⟨S,h1,_,_⟩:=h;exact T.read h1
def kN {α:Type}(T:Ty α)(W0:V)(hi:Nat)(W:V)(cs:D Value)(x:α):Prop:=∃ S,T.O W cs x S/\S.Nodup/\∀ b∈S,W0.heap.size<=b/\b<hi
theorem gH.mw {α:Type} {T:Ty α} {x:α} (h:gH T w w1 cs x):kN T w w1.heap.size w1 cs x:=by
 obtain⟨S,h1,h2,h3⟩:=h;exact⟨S,h1,h2,fun b hb=>⟨h3 b hb,T.jQ h1 b hb⟩⟩
theorem kN.fresh {α:Type} {T:Ty α} {x:α} (h:kN T w hi w1 cs x):gH T w w1 cs x:=by
 obtain⟨S,h1,h2,h3⟩:=h;exact⟨S,h1,h2,fun b hb=>(h3 b hb).1⟩
theorem kN.same {α:Type} {T:Ty α} {x:α} (h:kN T w hi w1 cs x)(hs:gV w.heap.size hi w1 w2):kN T w hi w2 cs x:=by
 obtain⟨S,h1,h2,h3⟩:=h;exact⟨S,T.iA h1 (fun k hk=>hs k (h3 k hk).1 (h3 k hk).2),h2,h3⟩
theorem kN.fH {α:Type} {T:Ty α} {x:α} (h:kN T w hi w1 cs x)(hg:fy w1 w2):kN T w hi w2 cs x:=by
 obtain⟨S,h1,h2,h3⟩:=h;exact⟨S,T.jG h1 hg,h2,h3⟩
theorem kN.up {α:Type} {T:Ty α} {hi':Nat} {x:α} (h:kN T w hi w1 cs x)(hh:hi<=hi'):kN T w hi' w1 cs x:=by
 obtain⟨S,h1,h2,h3⟩:=h;exact⟨S,h1,h2,fun b hb=>⟨(h3 b hb).1,Vn (h3 b hb).2 hh⟩⟩
theorem kN.read {α:Type}{T:Ty α}{w w1:V}{hi:Nat}{cs:D Value}{x:α}(h:kN T w hi w1 cs x):T.R w1 w1.heap.size cs x:=h.fresh.read
theorem kN.ri {α:Type} {T:Ty α} {x:α} (h:kN T w hi w1 cs x)(hg:w0.heap.size<=w.heap.size):kN T w0 hi w1 cs x:=by
 obtain⟨S,h1,h2,h3⟩:=h;exact⟨S,h1,h2,fun b hb=>⟨VL hg (h3 b hb).1,(h3 b hb).2⟩⟩
def qu {α:Type}(T:Ty α)(W0:V)(hi n:Nat)(W:V)(cs:D Value)(x:α):Prop:=∃ S,T.O W cs x S/\S.Nodup/\∀ b∈S,(W0.heap.size<=b/\b<hi)∨n<=b
theorem qu.fresh {α:Type} {T:Ty α} {x:α} (h:qu T w hi n w1 cs x)(hn:w.heap.size<=n):gH T w w1 cs x:=by
 obtain⟨S,h1,h2,h3⟩:=h;exact⟨S,h1,h2,fun b hb=>by have:=h3 b hb;omega⟩
theorem xO {g:Prop} (f:g:=by
  obtain⟨S,h1,h2,h3⟩:=h
  refine⟨S,T.iA h1 (fun k hk=>?_),h2,h3⟩
  rcases h3 k hk with h | h
  ·exact hs k h.1 h.2
  ·exact ht k h (T.jQ h1 k hk)):g:=f
theorem qu.same {α:Type} {T:Ty α} {x:α} (h:qu T w hi n w1 cs x)(hs:gV w.heap.size hi w1 w2)(ht:gV n w1.heap.size w1 w2):qu T w hi n w2 cs x:=by
 exact xO
theorem qu.mw {α:Type}{T:Ty α}{w w1:V}{hi n:Nat}{cs:D Value}{x:α}(h:qu T w hi n w1 cs x)(hn:w.heap.size<=n):kN T w w1.heap.size w1 cs x:=(h.fresh hn).mw
theorem qG {α:Type} {T:Ty α} {xs:D α} (hg:w.heap[g]?=F (U cur e (0,0)))(hr:gz T w cur.toList xs S)(hm:xs.length<=9223372036854775807) :
  (T.sl e).O w [J (F ⟨g,0,I⟩) xs.length xs.length] xs (g::S):=by
 have hl:=hr.len;rw[Wg] at hl;refine⟨_,_,cur.toList,S,rfl,⟨by rw[Wg];exact hl,.inr ⟨g,xs.length,cur,rfl,Vu _,hg,Vz _,by simpa[maxLen] using hm,hl,?_⟩⟩,hr,rfl⟩;rw[WE];rw[Wg];omega
theorem Gz (t e:Wl)(i:TypeInfo)(z:Value)(ht:P.underlying t=F (.slice e))(hi:P.info? e=F i)(hz:i.zero=F z)
  (kl kc:IntKind) (n c:Nat) (hnc:n<=c) (hbytes:i.bytes*c<=281474976710656) (h63:c<=9223372036854775807) (w:V) :
  (Instr.makeSlice t (C kl (n:Int)) (C kc (c:Int))).run P w=.ok (J (F ⟨w.heap.size,0,I⟩) n c) (w.alloc (U (WO z.cells (c*i.size)) e)):=by
 have hb:(i.bytes:Int)*(c:Int)<=281474976710656:=by
  have h:((i.bytes*c:Nat):Int)<=281474976710656:=fh;rwa [Int.natCast_mul] at h
 have hr:=run_make (P:=P) w t e i z ht hi hz kl kc n c fh fh hb fh;simp only[Vy] at hr;exact hr
theorem Ip {x y:G}:x.toList=y.toList↔x=y:=by
 rw[YA,YA];constructor
 ·intro h
  cases x;cases y;simpa using h
 ·rintro rfl
  rfl
theorem mb (x y:G):(x.toList == y.toList)=decide (x=y):=by
 rw[Zk];simp only[V4,Ip,VD]
theorem TF {α:Type} {T:Ty α} {xs:D α} (h:(T.sl e).R w B [J A n c] xs)(hk:k<=n) :
  (T.sl e).R w B [J (if c=k then A else A.map (·.add (k*T.size))) (n-k) (c-k)] (xs.drop k):=by
 obtain⟨A',c',h1,h2,h3,h4,h5⟩:=h;injection h1 with h1 _
 injection h1 with hA hn hc
 subst hA hn hc;refine⟨_,c-k,by rw[WL],by rw[WL];omega,by omega,fun hN=>?_,fun hp=>?_⟩
 ·split at hN
  ·omega
  ·cases A with
   | none=>have:=h4 rfl;omega
   | some a=>simp at hN
 ·rw[WL] at hp
  obtain⟨g,a0,rfl,hg,h6⟩:=h5 (by omega);refine⟨g,a0+k*T.size,?_,hg,fun i x hx=>?_⟩
  ·rw[Vo (by omega)]
   simp[XO]
  ·rw[Xi] at hx
   obtain⟨ec,h7,h8⟩:=h6 _ x hx;refine⟨ec,h7,fun j u hu=>?_⟩;have:=h8 j u hu;rw[show a0+k*T.size+i*T.size+j=a0+(k+i)*T.size+j from by rw[Yi];omega];exact this
theorem TG {α:Type} {T:Ty α} {xs:D α} (h:(T.sl e).R w B [J A n c] xs)(hk:k<=n) :
  (T.sl e).R w B [J A k c] (xs.take k):=by
 obtain⟨A',c',h1,h2,h3,h4,h5⟩:=h;injection h1 with h1 _
 injection h1 with hA hn hc
 subst hA hn hc;have hl:(xs.take k).length=k:=by rw[WK];omega
 refine⟨A,c,by rw[hl],by rw[hl];omega,h3,h4,fun hp=>?_⟩;rw[hl] at hp;obtain⟨g,a0,rfl,hg,h6⟩:=h5 (by omega);refine⟨g,a0,rfl,hg,fun i x hx=>?_⟩;rw[Xh] at hx;split at hx
 ·exact h6 i x hx
 ·cases hx
theorem UT {Vb Y:Nat} (_:∀ b∈S,Vb<=b)(h:∀ b∈S',Y<=b)(hxy:Vb<=Y):∀ b∈S',Vb<=b:=fun b hb=>VL hxy (h b hb)
theorem Mt {A B:D Nat} (h:(A++B).Nodup):A.Nodup/\B.Nodup/\(∀ k∈A,k∉B)/\(∀ k∈B,k∉A):=by
 rw[Wb] at h;exact⟨h.1,h.2.1,fun k ha hb=>h.2.2 k ha k hb rfl,fun k hb ha=>h.2.2 k ha k hb rfl⟩
theorem gG (h:fy a b:=by repeat with_reducible first | exact .refl _ | exact .oE _ _ _ | exact .nP _ _ _ _ | assumption | apply fy.more | apply fy.alloc | apply fy.drew | apply fy.drewN):fy a b:=h
theorem gF (h:fy a b:=by(repeat with_reducible first | exact .refl _ | exact .oE _ _ _ | exact .nP _ _ _ _ | assumption | apply fy.more | apply fy.alloc | apply fy.drew | apply fy.drewN);done):fy a b:=h
open Go.RowKit Go.WideShapes Go.ChangeShapes
def DJ (P:Program)(t:Wl){α:Type}(T:Ty α):Prop:=
 ∀(U9:Type) (enc:Wl × Value->U9) (W:V) (spare:Nat->Bool) (held:Bool) (fuel:Nat) (cs:D Value) (x:DataW U9 × D MemPlace),
  DataW.trod enc P W 0 spare held fuel t cs=F x->∃ a,T.R W W.heap.size cs a
section
variable {P:Program} {t:Wl}
theorem RA {α:Type} {T:Ty α} (ht:P.underlying t=F (.slice e))(hs:P.cellsOf e=T.size)(h0:0<T.size)(he:DJ P e T):DJ P t (T.sl e'):=by
 intro U9 ao W ab aj ae cs x h;rcases Go.Deep.open_slice ht h with⟨rfl,_⟩ | ⟨a,len,ac,m,n,Vd,Pl,rfl,_,hl,hc,hm,_,hi⟩
 ·exact⟨[],I,0,rfl,Vz _,Vu _,fun _=>rfl,fun hp=>by simp at hp⟩
 ·have ap:len<=m:=by rw[hm];split <;> omega
  have ai:∀ n',n'<=len->∃ xs:D α,xs.length=n'/\∀ i y,xs[i]?=F y->∃ ec,T.R W W.heap.size ec y/\∀(j:Nat) (u:Value),ec[j]?=F u->W.cell? ((a.add (i*T.size)).add j)=F u:=by
   intro n';induction n' with
   | zero=>exact fun _=>⟨[],rfl,fun i y hy=>by simp at hy⟩
   | succ n' ih=>
    intro hn;obtain⟨xs,a4,a5⟩:=ih fh;obtain⟨ec,ah,an⟩:=hi n' fh;obtain⟨y,hy⟩:=he _ _ _ _ _ _ _ _ an;refine⟨xs++[y],by simp[a4],fun i z hz=>?_⟩;rw[YW] at hz;split at hz
    ·exact a5 i z hz
    ·rename_i hnl
     have al:=(Vh.1 hz).1;simp at al;have ak:i=n':=fh;subst ak;rw[a4,Ws] at hz;simp at hz;subst hz;refine⟨ec,hy,fun j u hu=>?_⟩;obtain⟨_,a7,a9⟩:=World.cells?_some ah;rw[hs] at a9 a7;rw[a9 j (by have:=(Vh.1 hu).1;omega),hu]
  obtain⟨xs,a4,a5⟩:=ai len (Vz _);subst a4;refine⟨xs,F a,ac,rfl,hl,by simpa[maxLen] using hc,fun h=>by simp at h,fun hp=>?_⟩;obtain⟨ec,hR,a1⟩:=a5 0 xs[0] (Vq hp);have a6:0<ec.length:=by rw[T.mX hR];exact h0
  have af:=a1 0 ec[0] (Vq a6);obtain⟨g,aa,a3⟩:=a;have a8:Vg W ⟨g,aa,a3⟩=F ec[0]:=by simpa[Addr.add] using af
  have a2:a3=I:=World.cell?_spot a8;subst a2;have am:=Wf W _ a8;refine⟨g,aa,rfl,am,fun i y hy=>?_⟩;obtain⟨ad,ag,a0⟩:=a5 i y hy;refine⟨ad,ag,fun j u hu=>?_⟩;have:=a0 j u hu;rw[XO,XO] at this;exact this
theorem Sg {U9:Type} {enc:Wl × Value->U9} {spare:Nat->Bool} {held:Bool} {d:DataW U9} {p:D MemPlace} {α:Type} {T:Ty α} (ho:DJ P t T)(h:DataW.Trod enc P W 0 spare held t v d p):∃ a,T.R W W.heap.size v.cells.toList a:=by
 obtain⟨a0,hf⟩:=h;exact ho _ _ _ _ _ _ _ _ hf
theorem Qw {r:Reach} {b0:Nat} (ht:P.underlying t=F (.slice e))(hv:Value.okWide P W r b0 t v):v.cells.toList = [v]:=by
 obtain⟨a,l,c,rfl⟩:=okWide_slice ht hv;rfl
end
def gE (x a b:Int):Bool:=decide (a<=x) && decide (x<=b)
theorem zr {a b:Int}:gE x a b=H↔a<=x/\x<=b:=by simp[gE]
theorem pU {a b:Int} (h1:a<=x)(h2:x<=b):gE x a b=H:=zr.2 ⟨h1,h2⟩
theorem uq {n:Int} (h1 : -9223372036854775808<=n)(h2:n<=9223372036854775807):Xr n=n:=IntWalk.wrap64_in n ⟨h1,h2⟩
theorem zp {a b:Bool} (h:a=b):XA (X a)=.returned (X b):=by rw[h]
theorem nB {a b:Int} (h:a=b):XA (C Z a)=.returned (C Z b):=by rw[h]
theorem K7 (x a b:Int)(h:a<=x):decide (x<=b)=gE x a b:=by simp[gE,h]
theorem K8 (x a b:Int)(h:x<a):M=gE x a b:=by simp[gE];omega
theorem lf (x a b:Int)(w:V):VK prog 38 #[C Z x,C Z a,C Z b] w fun e w'=>e=.returned (X (gE x a b))/\w=w':=by
 go_enter func38,ntmps38;go_wp2
 ·go_ret
  exact⟨zp (K7 x a b ‹_›),rfl⟩
 ·go_ret
  exact⟨zp (K8 x a b ‹_›),rfl⟩
theorem iU (x a b:Int)(w:V):VK prog 43 #[C Z x,C Z a,C Z b] w fun e w'=>e=.returned (X (gE x a b))/\w=w':=by
 go_enter func43,ntmps43;go_wp2
 ·go_ret
  exact⟨zp (K7 x a b ‹_›),rfl⟩
 ·go_ret
  exact⟨zp (K8 x a b ‹_›),rfl⟩
theorem I2 {f:FuncId} {args:Array Value}
  (h:VK P f args (w.drewN n) fun e w'=>e=.returned v/\w.drewN n=w'):VK P f args (w.drewN n) fun e w''=>e=.returned v/\∃ m,w''=w.drewN m:=
 h.mono fun _ _ ⟨he,hm⟩=>⟨he,n,hm.symm⟩
theorem yI {a b:Int} {v:Bool} (h:gE x a b=v)(w:V)(n:Nat):VK prog 43 #[C Z x,C Z a,C Z b] (w.drewN n) fun e w''=>e=.returned (X v)/\∃ m,w''=w.drewN m:=by
 subst h;exact I2 (iU _ _ _ _)
structure iZ (P:Program)(t e:Wl){α:Type}(T:Ty α)(WZ:Nat):Prop where
 ht:P.underlying t=F (.slice e)
 qy:∃ i z,P.info? e=F i/\i.zero=F z/\i.size=T.size/\i.bytes=WZ/\z.cells.size=T.size
 pos:0<T.size
theorem FR {α:Type} {T:Ty α} (hE:iZ P t e T WZ){w:V}{B:Nat}{A:N VQ}{n c k:Nat}{xs:D α}(h:(T.sl e').R w B [J A n c] xs)(hk:k<=n) :
  ∃ A',(∀ W,(Yo t (J A n c) (F (C Z (k:Int))) I I).run P W=.ok (J A' (n-k) (c-k)) W)/\(T.sl e').R w B [J A' (n-k) (c-k)] (xs.drop k):=by
 refine⟨_,fun W=>?_,TF h hk⟩;obtain⟨i,z,hi,hz,a0,a1,a3⟩:=hE.qy
 have a2:n<=c:=by
  obtain⟨A',c',h1,h2,_⟩:=h;injection h1 with h1 _
  injection h1 with hA hn hc
  subst hA hn hc;exact h2
 simp[Yo,Instr.slice,Instr.sliceBounds,Instr.sliceBound,asIntOf,Y5 hE.ht,sizeOf,typeInfo,hi,a0];intro h;omega
theorem KG {α:Type} {T:Ty α} (hE:iZ P t e T WZ){w:V}{B:Nat}{A:N VQ}{n c k:Nat}{xs:D α}(h:(T.sl e').R w B [J A n c] xs)(hk:k<=n) :
  (∀ W,(Yo t (J A n c) I (F (C Z (k:Int))) I).run P W=.ok (J A k c) W)/\(T.sl e').R w B [J A k c] (xs.take k):=by
 refine⟨fun W=>?_,TG h hk⟩;obtain⟨i,z,hi,hz,a0,a1,a3⟩:=hE.qy
 have a2:n<=c/\(A=I->c=0):=by
  obtain⟨A',c',h1,h2,_,h4,_⟩:=h;injection h1 with h1 _
  injection h1 with hA hn hc
  subst hA hn hc;exact⟨h2,h4⟩
 have hA:A.map (fun a=>a.add 0)=A:=by cases A <;> simp[Addr.add]
 simp[Yo,Instr.slice,Instr.sliceBounds,Instr.sliceBound,asIntOf,Y5 hE.ht,sizeOf,typeInfo,hi,hA];intro h;omega
def lL {α:Type}(T:Ty α):Prop:=∀{w B cs x},T.R w B cs x->∀ w',T.O w' cs x []
theorem zI:lL zv:=fun h _=>⟨h.1,h.2.1,h.2.2,rfl⟩
theorem JX:lL BZ:=fun h _=>⟨h,rfl⟩
theorem ng:lL jB:=fun h _=>⟨h.1,h.2,rfl⟩
theorem qH {α β:Type} {T:Ty α} {U7:Ty β} (h:lL T)(k:lL U7):lL (T.prod U7):=fun⟨c1,c2,h1,h2,h3⟩ w'=>⟨c1,c2,[],[],h1,rfl,h h2 w',k h3 w'⟩
theorem AA {α β:Type} {T:Ty α} (f:β->α)(h:lL T):lL (T.via f):=fun h1 w'=>h h1 w'
section
variable {α:Type} {T:Ty α} {e:Wl}
theorem yC (W0 W:V):gH (T.sl e) W0 W [J I 0 0] []:=
 ⟨[],⟨I,0,[],[],rfl,World.ownsRow_nil W 0 e T.size,⟨rfl,rfl⟩,rfl⟩,gm,gm⟩
theorem TS (W0 W:V):kN (T.sl e) W0 0 W [J I 0 0] []:=
 ⟨[],⟨I,0,[],[],rfl,World.ownsRow_nil W 0 e T.size,⟨rfl,rfl⟩,rfl⟩,gm,gm⟩
theorem yp (hg:fy W0 W){g:Nat}(hgW:g=W.heap.size):gH (T.sl e) W0 (W.alloc (U #[] e)) [J (F ⟨g,0,I⟩) 0 0] []:=by
 subst hgW;refine⟨[W.heap.size],⟨_,0,[],[],rfl,?_,⟨rfl,rfl⟩,by simp[lT]⟩,gm,fun b hb=>?_⟩
 ·exact World.ownsRow_made W #[] 0 (Vu _) (Vu _) gm
 ·simp at hb
  subst hb;exact hg.size
theorem GM {Vb:V} (hg:fy (Vb.alloc (U #[] e)) W)(h0:fy W0 Vb){g:Nat}(hgW:g=Vb.heap.size):gH (T.sl e) W0 W [J (F ⟨g,0,I⟩) 0 0] []:=
 (yp h0 hgW).fH hg
theorem Cy (hf:lL T){w w':V}{B g off:Nat}:∀(xs:D α)(k:Nat),(∀ i x,xs[i]?=F x->∃ ec,T.R w B ec x/\∀(j:Nat)(u:Value),ec[j]?=F u->Vg w ⟨g,off+(k+i)*T.size+j,I⟩=F u)->
  ∃ cs,gz T w' cs xs []/\cs.length=xs.length*T.size/\∀(j:Nat) (u:Value),cs[j]?=F u->Vg w ⟨g,off+k*T.size+j,I⟩=F u
 | [],k,_=>⟨[],⟨rfl,rfl⟩,by simp,fun j u hu=>by simp at hu⟩
 | x::xs,k,h=>by
  obtain⟨ec,hR,hc⟩:=h 0 x rfl
  obtain⟨cs,h1,h2,h3⟩:=Cy hf xs (k+1) (fun i y hy=>by
   obtain⟨a0,a1,a2⟩:=h (i+1) y (by simpa using hy)
   exact⟨a0,a1,fun j u hu=>by have:=a2 j u hu;rw[show k+(i+1)=k+1+i from by omega] at this;exact this⟩)
  have hl:=T.mX hR;refine⟨ec++cs,⟨ec,cs,[],[],rfl,rfl,hf hR _,h1⟩,by rw[Vk,hl,h2,VC,Yi,Ys,Yk],fun j u hu=>?_⟩;rw[YW] at hu;split at hu
  ·exact hc j u hu
  ·rename_i hj
   have:=h3 _ u hu;rw[Yi,Ys] at this;rw[hl] at hj;rw[hl] at this;rw[show off+k*T.size+j=off+(k*T.size+T.size)+(j-T.size) from by omega];exact this
section
variable {P:Program} {t ty:Wl} {WZ:Nat}
theorem wI {g:Prop} (f:g:=by
  refine⟨by cases A' <;> simp[lT],Wb.2 ⟨hN2,hSy,fun a ha b hb heq=>hd a (VV _ ha) (heq ▸ hb)⟩,fun a ha b hb heq=>?_⟩
  subst heq
  rcases hA' a ha with h | h
  ·rcases VA.1 hb with hb | hb
   ·exact hN3 a h a hb rfl
   ·exact hd a (VN _ h) hb
  ·subst h
   rcases VA.1 hb with hb | hb
   ·exact absurd (hrow.lt _ hb) (Yp _)
   ·exact absurd (hr.lt _ hb) (Yp _)):g:=f
theorem wR {g:Prop} (f:g:=by
  rcases hown.2 with⟨rfl,h0⟩ | ⟨g,cap,cur,rfl,_⟩
  ·exact⟨I,0,by rw[h0],by simp[lT]⟩
  ·refine⟨_,cap,rfl,fun b hb=>?_⟩
   simp[lT] at hb
   subst hb
   rcases hat with h | h
   ·left
    cases A with
    | none=>simp[XF] at h
    | some a=>simp[XF] at h;simp[lT,h]
   ·right
    simpa[XF] using h):g:=f
theorem DW (hE:iZ P t e T WZ){W0 W:V}{hi0:Nat}{A:N VQ}{n c:Nat}{xs:D α}(h:kN (T.sl e) W0 hi0 W [J A n c] xs)
  {ad:VQ} {m c':Nat} {ys:D α} {news:D Value} {Sy:D Nat} (hr:gz T W news ys Sy) (hm:m=ys.length) (hcell:∀ j u,news[j]?=F u->W.cell? (ad.add j)=F u)
  (hSy:Sy.Nodup) {m0:Nat} (hm0:m0<=W.heap.size) (hSy0:∀ b∈Sy,W0.heap.size<=b/\hi0<=b/\m0<=b)
  {L:Nat} (hL:L=n+m) (hb:L*WZ<=140737488355328) (h63:L<=9223372036854775807) :
  ∃ A' c'' W',(WS #[t,t] ty #[J A n c,J (F ad) m c']).run P W=.ok (J A' L c'') W'/\(∃ row,W.grownBy W' row/\∀ k,row=F k->W0.heap.size<=k/\k<hi0)/\qu (T.sl e) W0 hi0 m0 W' [J A' L c''] (xs++ys):=by
 subst hL;obtain⟨S,hO,hN,a0⟩:=h;have ag:∀ b∈S,W0.heap.size<=b:=fun b hb=>(a0 b hb).1;have hd:∀ b∈S,b∉Sy:=fun b hb hm=>by have h1:=(a0 b hb).2;have h2:=(hSy0 b hm).2.1;omega
 obtain⟨A1,c1,a6,S',hv,ab,hrow,rfl⟩:=hO;injection hv with hv _
 injection hv with hA hn hc
 subst hA hc;have a8:n=xs.length:=hn;obtain⟨i,z,hi,hz,a5,aa,ae⟩:=hE.qy;have a7:news.length=m*T.size:=by rw[hr.len,hm]
 obtain⟨v',W',a9,hown,a1,_,hat⟩:=run_append_own_at (P:=P) W 0 t ty e i z T.size WZ hE.ht hi hz a5 aa ae hE.pos (J A xs.length c) xs.length a6 ab ad m c' news a7 hcell hr.one
  (by rw[<-a8];simpa[maxLen] using h63) (by rw[<-a8];exact hb) (Vu _)
 subst a8
 have hG:∃ row,W.grownBy W' row/\∀ k,row=F k->W0.heap.size<=k/\k<hi0:=⟨_,a1,fun k hk=>by
  cases A with
  | none=>simp[XF] at hk
  | some a=>
   simp[XF] at hk
   exact a0 k (by simp[lT,hk])⟩
 -- the elements' own blocks have not turned
 have a2:∀ k,k<W.heap.size->(∀ b∈lT A,k≠b)->W'.heap[k]?=W.heap[k]?:=fun k hk hne=>a1.block k hk (by
  cases A with
  | none=>simp[XF]
  | some a=>simpa[XF,lT] using hne)
 rw[Wb] at hN;obtain⟨af,hN2,hN3⟩:=hN;have a4:gz T W' a6 xs S':=hrow.gu (fun k hk=>a2 k (hrow.lt k hk) (fun b hb=>(hN3 b hb k hk).symm));have ac:gz T W' news ys Sy:=hr.gu (fun k hk=>a2 k (hr.lt k hk) (fun b hb heq=>hd b (VN _ hb) (heq ▸ hk)))
 have a3:∃ A' c'',v'=J A' (xs.length+m) c''/\∀ b∈lT A',b∈lT A∨b=W.heap.size:=by
  exact wR
 obtain⟨A',c'',rfl,hA'⟩:=a3;refine⟨A',c'',W',a9,hG,lT A'++(S'++Sy),⟨A',c'',a6++news,S'++Sy,by rw[Vk,hm],by rw[Vk,<-hm];exact hown,a4.l5 ac,rfl⟩,?_,?_⟩
 ·rw[Wb]
  exact wI
 ·intro b hb
  rcases VA.1 hb with hb | hb
  ·rcases hA' b hb with h | h
   ·exact .inl (a0 b (VN _ h))
   ·rw[h];exact .inr hm0
  ·rcases VA.1 hb with hb | hb
   ·exact .inl (a0 b (VV _ hb))
   ·exact .inr (hSy0 b hb).2.2
theorem Gj (hE:iZ P t e T WZ){W0 W:V}{A:N VQ}{n c:Nat}{xs:D α}(h:gH (T.sl e) W0 W [J A n c] xs)(c':Nat) :
  (WS #[t,t] ty #[J A n c,J I 0 c']).run P W=.ok (J A n c) W:=by
 obtain⟨S,hO,hN,a7⟩:=h;obtain⟨A1,c1,a6,S',hv,a2,a3,rfl⟩:=hO;injection hv with hv _
 injection hv with hA hn hc
 subst hA hc hn;obtain⟨i,z,hi,hz,a0,a8,a9⟩:=hE.qy;rcases a2.2 with⟨hv,h0⟩ | ⟨g,a4,a5,hv,_,_,a1,_⟩
 ·rw[hv]
  simp[WS,Y5 hE.ht,sizeOf,typeInfo,hi,Builtin.lenOf,Builtin.firstCells]
 ·rw[hv]
  simp[WS,Y5 hE.ht,sizeOf,typeInfo,hi,Builtin.lenOf,Builtin.firstCells,a1,storeCells]
theorem Gn (hE:iZ P t e T WZ)(hf:lL T){W0 W:V}{hi0 m0:Nat}(hm0:m0<=W.heap.size){A:N VQ}{n c:Nat}{xs:D α}(h:kN (T.sl e) W0 hi0 W [J A n c] xs)
  {B:Nat} {e':Wl} {A2:N VQ} {m c2:Nat} {ys:D α} (hy:(T.sl e').R W B [J A2 m c2] ys)
  {L:Nat} (hL:L=n+m) (hb:L*WZ<=140737488355328) (h63:L<=9223372036854775807) :
  ∃ A' c'' W',(WS #[t,t] ty #[J A n c,J A2 m c2]).run P W=.ok (J A' L c'') W'/\(∃ row,W.grownBy W' row/\∀ k,row=F k->W0.heap.size<=k/\k<hi0)/\qu (T.sl e) W0 hi0 m0 W' [J A' L c''] (xs++ys):=by
 obtain⟨A3,c3,hv,h1,h2,h3,h4⟩:=hy;injection hv with hv _
 injection hv with hA hn hc
 subst hA hn hc;rcases XL ys.length with h0 | h0
 ·have a1:ys = []:=Xu h0
  subst a1;subst hL;cases A2 with
  | none=>exact⟨A,c,W,Gj hE h.fresh _,⟨I,World.grownBy.refl W I,fun k hk=>by simp at hk⟩,by
    obtain⟨S,h1,h2,h3⟩:=h
    exact⟨S,by simpa using h1,h2,fun b hb=>.inl (h3 b hb)⟩⟩
  | some ad=>
   exact DW hE h (ad:=ad) (m:=0) (news:=[]) (ys:=[]) (Sy:=[]) ⟨rfl,rfl⟩ rfl (fun j u hu=>by simp at hu) (by simp) hm0 (by simp) rfl hb h63
 ·obtain⟨g,off,rfl,a2,h5⟩:=h4 h0
  obtain⟨cs,hr,hl,hc⟩:=Cy (w':=W) hf (g:=g) (off:=off) ys 0 (fun i x hx=>by
   obtain⟨ec,hR,a0⟩:=h5 i x hx
   exact⟨ec,hR,fun j u hu=>by rw[VJ];exact a0 j u hu⟩)
  exact DW hE h (ad:=⟨g,off,I⟩) hr rfl (fun j u hu=>by rw[XO];simpa using hc j u hu) (by simp) hm0 (by simp) hL hb h63
end
section
variable {P:Program} {t:Wl} {WZ:Nat} {ops:Array Oper} {rest:D Oper} {o:Oper} {a:Act} {Vc:Exit->Act->V->Prop} {K:Act->V->Prop}
theorem xD {g:Prop} (f:g:=by
  unfold Oper.wp execOp
  simp only[ho,resolve,invoke,builtin,Sem.run_bind,Sem.run_pure,Result.andThen_ok,List.map_toArray,WD,List.map_nil,hs,hx,hrun]
  exact h):g:=f
theorem vG {v2 v':Value} (s x:Operand)(ho:o.op=.call { callee:=.builtin .append,args:=#[s,x],argTypes:=#[t,t] })(hs:a.eval s=J A n c)(hx:a.eval x=v2)
  (hrun:(WS #[t,t] o.type #[J A n c,v2]).run P W=.ok v' W') (h:K (a.put o.dst v') W'):o.wp P a W K Vc:=by
 exact xD
theorem xV {g:Prop} (f:g:=by
  obtain⟨os,d,rfl⟩:=hg.grown hgr (fun k hk=>(hrow k hk).1)
  exact vG s x ho hs hx hrun (hKK _ _ (hK A' c'' os d (hF.fresh (Vz _))))):g:=f
theorem DU (hgd:o.guard=I)(s x:Operand)(hE:iZ P t e T WZ)(hf:lL T){W0 W:V}{A:N VQ}{n c:Nat}{xs:D α}(h:gH (T.sl e) W0 W [J A n c] xs)(hg:fy W0 W)
  {B:Nat} {e':Wl} {A2:N VQ} {m c2:Nat} {ys:D α} (hy:(T.sl e').R W B [J A2 m c2] ys)
  (ho:o.op=.call { callee:=.builtin .append,args:=#[s,x],argTypes:=#[t,t] }) (hs:a.eval s=J A n c) (hx:a.eval x=J A2 m c2)
  {L:Nat} (hL:L=n+m) (hb:L*WZ<=140737488355328) (h63:L<=9223372036854775807)
  (hK:∀ A' c'' os d,gH (T.sl e) W0 (fH W0 os d) [J A' L c''] (xs++ys)->wpList P ops Vc rest (a.put o.dst (J A' L c'')) (fH W0 os d)):wpList P ops Vc (o::rest) a W:=
 YJ hgd fun K hKK=>by
  obtain⟨A',c'',W',hrun,⟨row,hgr,hrow⟩,hF⟩:=Gn (P:=P) (ty:=o.type) hE hf hg.size h.mw hy hL hb h63;exact xV
theorem Nq (hE:iZ P t e T WZ){W0 W We:V}{ty:Wl}{hi0 g cc m0:Nat}(hm0:m0<=W.heap.size)(hm1:m0<=We.heap.size){A:N VQ}{n c:Nat}{xs:D α}(h:kN (T.sl e) W0 hi0 W [J A n c] xs)
  {ec:D Value} {y:α} (hy:gH T We W ec y) (hhi:hi0<=We.heap.size) (hWe:W0.heap.size<=We.heap.size) (hcell:∀(j:Nat) (u:Value),ec[j]?=F u->Vg W ⟨g,j,I⟩=F u)
  {L:Nat} (hL:L=n+1) (hb:L*WZ<=140737488355328) (h63:L<=9223372036854775807) :
  ∃ A' c'' W',(WS #[t,t] ty #[J A n c,J (F ⟨g,0,I⟩) 1 cc]).run P W=.ok (J A' L c'') W'/\(∃ row,W.grownBy W' row/\∀ k,row=F k->W0.heap.size<=k/\k<hi0)/\qu (T.sl e) W0 hi0 m0 W' [J A' L c''] (xs++[y]):=by
 obtain⟨Sy,hO,a1,a0⟩:=hy
 exact DW (P:=P) (ty:=ty) hE h (ad:=⟨g,0,I⟩) (m:=1) (c':=cc) (ys:=[y]) (news:=ec) (Sy:=Sy)
   ⟨ec,[],Sy,[],gm,gm,hO,rfl,rfl⟩ rfl
   (fun j u hu=>by rw[XO,VJ];exact hcell j u hu) a1 hm0 (fun b hb=>⟨VL hWe (a0 b hb),VL hhi (a0 b hb),VL hm1 (a0 b hb)⟩)
   hL hb h63
theorem MF (hgd:o.guard=I)(s x:Operand)(hE:iZ P t e T WZ){W0 W We:V}{hi0 g cc:Nat}{A:N VQ}{n c:Nat}{xs:D α}(h:kN (T.sl e) W0 hi0 W [J A n c] xs)(hg:fy W0 W)
  {ec:D Value} {y:α} (hy:gH T We W ec y) (hhi:hi0<=We.heap.size) (hWe:W0.heap.size<=We.heap.size)
  (ho:o.op=.call { callee:=.builtin .append,args:=#[s,x],argTypes:=#[t,t] }) (hs:a.eval s=J A n c) (hx:a.eval x=J (F ⟨g,0,I⟩) 1 cc)
  (hcell:∀(j:Nat) (u:Value),ec[j]?=F u->Vg W ⟨g,j,I⟩=F u)
  {L:Nat} (hL:L=n+1) (hb:L*WZ<=140737488355328) (h63:L<=9223372036854775807)
  (hK:∀ A' c'' os d,gH (T.sl e) W0 (fH W0 os d) [J A' L c''] (xs++[y])->wpList P ops Vc rest (a.put o.dst (J A' L c'')) (fH W0 os d)):wpList P ops Vc (o::rest) a W:=
 YJ hgd fun K hKK=>by
  obtain⟨A',c'',W',hrun,⟨row,hgr,hrow⟩,hF⟩:=Nq (P:=P) (ty:=o.type) hE hg.size hWe h hy hhi hWe hcell hL hb h63;exact xV
theorem O8 (hf:lL T){We W W1:V}{B:Nat}{cs:D Value}{x:α}(h:T.R W1 B cs x):gH T We W cs x:=⟨[],hf h W,gm,gm⟩
theorem yo (hgd:o.guard=I)(s x:Operand)(hE:iZ P t e T WZ)(hf:lL T){W0 W W1:V}{hi0 B g cc:Nat}{A:N VQ}{n c:Nat}{xs:D α}(h:kN (T.sl e) W0 hi0 W [J A n c] xs)(hg:fy W0 W)
  {ec:D Value} {y:α} (hy:T.R W1 B ec y)
  (ho:o.op=.call { callee:=.builtin .append,args:=#[s,x],argTypes:=#[t,t] }) (hs:a.eval s=J A n c) (hx:a.eval x=J (F ⟨g,0,I⟩) 1 cc)
  (hcell:∀(j:Nat) (u:Value),ec[j]?=F u->Vg W ⟨g,j,I⟩=F u)
  {L:Nat} (hL:L=n+1) (hb:L*WZ<=140737488355328) (h63:L<=9223372036854775807)
  (hK:∀ A' c'' os d,gH (T.sl e) W0 (fH W0 os d) [J A' L c''] (xs++[y])->wpList P ops Vc rest (a.put o.dst (J A' L c'')) (fH W0 os d)):wpList P ops Vc (o::rest) a W:=
 MF hgd s x hE (h.fresh.mw) hg (We:=W) (O8 hf hy) (Vz _) hg.size ho hs hx hcell hL hb h63 hK
theorem ME {E:Prop} (hgd:o.guard=I)(s x:Operand)(hE:iZ P t e T WZ)(hf:lL T){W0 W:V}{A:N VQ}{n c:Nat}{xs:D α}(h:gH (T.sl e) W0 W [J A n c] xs)(hg:fy W0 W)
  {B:Nat} {e':Wl} {A2:N VQ} {m c2:Nat} {ys:D α} (hy:(T.sl e').R W B [J A2 m c2] ys)
  (ho:o.op=.call { callee:=.builtin .append,args:=#[s,x],argTypes:=#[t,t] }) (hs:a.eval s=J A n c) (hx:a.eval x=J A2 m c2)
  {L:Nat} (hL:L=n+m) (hb:L*WZ<=140737488355328) (h63:L<=9223372036854775807)
  (hK:∀ A' c'' os d,gH (T.sl e) W0 (fH W0 os d) [J A' L c''] (xs++ys)->K (a.put o.dst (J A' L c'')) (fH W0 os d)):if V6 o (Xb ops a.tmps)=H then Oper.wp P o a W K Vc else E:=by
 have hw:V6 o (Xb ops a.tmps)=H:=by simp[V6,hgd]
 rw[Vs hw];obtain⟨A',c'',W',a1,⟨row,a2,a0⟩,hF⟩:=Gn (P:=P) (ty:=o.type) hE hf hg.size h.mw hy hL hb h63;obtain⟨os,d,rfl⟩:=hg.grown a2 (fun k hk=>(a0 k hk).1);exact vG s x ho hs hx a1 (hK A' c'' os d (hF.fresh (Vz _)))
end
section
variable {P:Program} {t:Wl} {WZ:Nat} {ops:Array Oper} {rest:D Oper} {o:Oper} {a:Act} {Vc:Exit->Act->V->Prop}
theorem qu.up {α:Type} {T:Ty α} {x:α} (h:qu T w hi n w1 cs x)(hg:fy w1 w2):qu T w hi n w2 cs x:=by
 obtain⟨S,h1,h2,h3⟩:=h;exact⟨S,T.jG h1 hg,h2,h3⟩
theorem qu.read {α:Type}{T:Ty α}{w w1:V}{hi n:Nat}{cs:D Value}{x:α}(h:qu T w hi n w1 cs x):T.R w1 w1.heap.size cs x:=by
 obtain⟨S,h1,_,_⟩:=h;exact T.read h1
end
end
def nV:Ty UInt8 where
 size:=1
 R:=fun _ _ cs x=>cs = [C .u8 (x.toNat:Int)]
 O:=fun _ cs x S=>cs = [C .u8 (x.toNat:Int)]/\S = []
 mX:=by rintro _ _ _ _ rfl;rfl
 kQ:=by rintro _ _ _ _ ⟨rfl,_⟩;rfl
 nt:=by rintro _ _ _ _ ⟨rfl,_⟩ u hu;simp at hu;subst hu;rfl
 nO:=by rintro _ _ _ _ rfl u hu;simp at hu;subst hu;rfl
 jz:=by rintro _ _ _ _ _ _ h _ _;exact h
 iA:=by rintro _ _ _ _ _ h _;exact h
 jQ:=by rintro _ _ _ _ ⟨_,rfl⟩ k hk;simp at hk
 OR:=by rintro _ _ _ _ _ ⟨h1,_⟩ _;exact h1
theorem Cs:lL nV:=fun h _=>⟨h,rfl⟩
theorem Kr (h0:0<=x)(h1:x<256):nV.R w B [C .u8 x] (WT x.toNat):=by
 obtain⟨n,rfl⟩:=VI h0;show [C .u8 (n:Int)] = [C .u8 (((WT (n:Int).toNat).toNat:Nat):Int)]
 have:(WT (n:Int).toNat).toNat=n:=by
  rw[Vy];exact Ye (by show n<256;omega)
 rw[this]
theorem ya {g:Prop} (f:g:=by
  rw[hi] at h
  simp only[Xp,VO,Xd] at h
  exact⟨i,_,rfl,h.1,h.2.1,h.2.2,rfl⟩):g:=f
theorem Do:iZ prog 22 5 nV 1:=by
 refine⟨underlying22,?_,gv⟩;have h:(prog.info? 5).map (fun i=>(i.zero,i.size,i.bytes))=F (F (C .u8 0),1,1):=gU;cases hi:prog.info? 5 with
 | none=>rw[hi] at h;simp at h
 | some i=>
  exact ya
theorem Ed {xs:D UInt8} (h:(nV.sl e').R w B [J A n c] xs) :
  (convert 22 9 (J A n c)).run prog w=.ok (Q ⟨xs.toArray⟩) w:=by
 obtain⟨A',c',h1,h2,h3,h4,h5⟩:=id h;simp only[XB,WP,XR] at h1;obtain⟨rfl,rfl,rfl⟩:=h1;rcases XL xs.length with h0 | h0
 ·cases xs with
  | cons x xs=>simp at h0
  | nil=>
   cases A with
   | none=>exact run_convert_bytes_nil w _ _ underlying22 underlying5 _ _ _ underlying9
   | some a=>
    rw[run_convert_bytes_string w _ _ _ _ _ _ underlying22 underlying5 underlying9];rw[run_bytesToString w a _ _ [] (by simp[loadCells,loadCellsFrom,Sem.run_pure])];rfl
 ·obtain⟨g,a0,rfl,hg,h6⟩:=h5 h0
  have hr:=run_convert_bytes_arg (P:=prog) w 22 5 underlying22 underlying5 g a0 xs.length c (xs.map fun b=>(b.toNat:Int)) (by simp) (by
   intro i hi;obtain⟨ec,h7,h8⟩:=h6 i _ (Vq hi);obtain rfl:ec=_:=h7;have:=h8 0 _ rfl;rw[show a0+i*nV.size+0=a0+i from by show a0+i*1+0=_;omega] at this;rw[this]
   simp[List.getD,Vq hi]) _ underlying9
  rw[hr];have:((fun n:Int=>WT n.toNat) ∘ fun b:UInt8=>(b.toNat:Int))=id:=by funext b;simp
  simp[strOfNums,this]
section
variable {α:Type}
def uG (cnt:α->Nat)(xs:D α):Nat:=(xs.map cnt).sum
variable {mk:α->Int->α} {cnt:α->Nat}
theorem JO (x:α)(xs:D α):uG cnt (x::xs)=cnt x+uG cnt xs:=by simp[uG]
theorem Qc {xs:D α} {i:Nat} {x:α} (h:xs[i]?=F x):uG cnt (xs.take (i+1))=uG cnt (xs.take i)+cnt x:=by
 rw[yB h];simp[uG]
theorem NW (xs:D α)(i:Nat):uG cnt (xs.take i)<=uG cnt xs:=by
 induction xs generalizing i with
 | nil=>simp[uG]
 | cons x xs ih=>
  cases i with
  | zero=>simp[uG]
  | succ i=>rw[Wz,JO,JO];have:=ih i;omega
end
def AS (cur:Array Value)(p:Nat):Nat->D Value->Array Value
 | _,[]=>cur
 | j,v::vs=>AS (cur.setIfInBounds (p+j) v) p (j+1) vs
def wk (l:D Value)(p:Nat):Nat->D Value->D Value
 | _,[]=>l
 | j,v::vs=>wk (l.set (p+j) v) p (j+1) vs
theorem Ig (vs:D Value):∀(cur:Array Value)(p j:Nat),(AS cur p j vs).toList=wk cur.toList p j vs:=by
 induction vs with
 | nil=>intro cur p j;rfl
 | cons v vs ih=>intro cur p j;simp only[AS,wk];rw[ih,Array.toList_setIfInBounds]
theorem OK (vs:D Value):∀(l:D Value)(p j:Nat),(wk l p j vs).length=l.length:=by
 induction vs with
 | nil=>intro l p j;rfl
 | cons v vs ih=>intro l p j;simp only[wk];rw[ih,VY]
theorem QV (vs:D Value)(cur:Array Value)(p j:Nat):(AS cur p j vs).size=cur.size:=by
 rw[<-Wg,Ig,OK,Wg]
theorem Uk (vs:D Value):∀(l:D Value)(p j:Nat),p+j+vs.length<=l.length->wk l p j vs=l.take (p+j)++(vs++l.drop (p+j+vs.length)):=by
 induction vs with
 | nil=>intro l p j _;simp[wk]
 | cons v vs ih=>
  intro l p j h;simp only[VC] at h;have hl:(l.take (p+j)).length=p+j:=by rw[WK];omega
  simp only[wk];rw[ih _ _ _ (by rw[VY];omega),VC,show p+(j+1)=p+j+1 from rfl,List.drop_set_of_lt fh,Wr,List.take_set_of_le (Vz _),WU fh];simp only[Option.toList_some,VM,Xl,Wo];rw[show p+j+1+vs.length=p+j+(vs.length+1) from fh]
def setRow (w:V)(g p:Nat):Nat->D Value->V
 | _,[]=>w
 | j,v::vs=>setRow (w.setCell ⟨g,p+j,I⟩ v) g p (j+1) vs
theorem QW (vs:D Value):∀(w:V)(g p j:Nat)(cur:Array Value)(e:Wl),w.heap[g]?=F (U cur e (0,0))->(setRow w g p j vs).heap[g]?=F (U (AS cur p j vs) e (0,0)):=by
 induction vs with
 | nil=>intro w g p j cur e h;exact h
 | cons v vs ih=>intro w g p j cur e h;exact ih _ _ _ _ _ _ (py h _ _)
theorem OL (vs:D Value){S:D Nat}{g:Nat}(hg:g∈S):∀(w0 w:V)(p j:Nat),fG S w0 w->fG S w0 (setRow w g p j vs):=by
 induction vs with
 | nil=>intro w0 w p j h;exact h
 | cons v vs ih=>intro w0 w p j h;exact ih _ _ _ _ (h.setCell (p:=⟨g,p+j,I⟩) hg v)
theorem NQ (vs:D Value):∀(w:V)(g p j k:Nat),k≠g->(setRow w g p j vs).heap[k]?=w.heap[k]?:=by
 induction vs with
 | nil=>intro w g p j k _;rfl
 | cons v vs ih=>intro w g p j k hk;exact(ih _ _ _ _ _ hk).trans (YD w ⟨g,p+j,I⟩ v k hk)
def ns {α:Type}(T:Ty α)(lo hi n:Nat)(W:V)(cs:D Value)(x:α):Prop:=∃ S,T.O W cs x S/\S.Nodup/\∀ b∈S,(lo<=b/\b<hi)∨n<=b
section
variable {α:Type} {T:Ty α} {w w1 w2:V} {lo hi n:Nat} {cs:D Value} {x:α}
theorem ns.same (h:ns T lo hi n w1 cs x)(hs:gV lo hi w1 w2)(ht:gV n w1.heap.size w1 w2):ns T lo hi n w2 cs x:=by
 exact xO
theorem ns.fH (h:ns T lo hi n w1 cs x)(hg:fy w1 w2):ns T lo hi n w2 cs x:=by
 obtain⟨S,h1,h2,h3⟩:=h;exact⟨S,T.jG h1 hg,h2,h3⟩
theorem ns.read (h:ns T lo hi n w1 cs x):T.R w1 w1.heap.size cs x:=by
 obtain⟨S,h1,_,_⟩:=h;exact T.read h1
theorem ns.fresh (h:ns T lo hi n w1 cs x)(h1:w.heap.size<=lo)(h2:w.heap.size<=n):gH T w w1 cs x:=by
 obtain⟨S,h3,h4,h5⟩:=h;exact⟨S,h3,h4,fun b hb=>by have:=h5 b hb;omega⟩
end
section
variable {α:Type} {T:Ty α} {e:Wl} {P:Program} {t:Wl} {WZ:Nat} {ops:Array Oper} {o:Oper} {a:Act} {Vc:Exit->Act->V->Prop} {K:Act->V->Prop}
end
def cut (W:V)(n:Nat):V:={ W with heap:=W.heap.extract 0 n }
theorem Su (h:n<=W.heap.size):(cut W n).heap.size=n:=by
 simp only[cut,Array.size_extract];omega
theorem Tj {i:Nat} (h:n<=W.heap.size)(hi:i<n):(cut W n).heap[i]?=W.heap[i]?:=by
 simp only[cut];rw[Array.getElem?_extract,Vs fh,VJ]
theorem fy.cut {w W:V}{n:Nat}(h:fy w W)(hn:w.heap.size<=n)(h2:n<=W.heap.size):fy w (cut W n):=by
 have hb:=h.below;exact fy.lA ⟨hb.os,hb.tape,hb.output,by rw[Su h2];exact hn,fun k hk=>by rw[Tj h2 fh];exact hb.block k hk⟩
theorem lN (h:fy a b){p:VQ}{v:Value}(hp:a.cell? p=F v):b.cell? p=F v:=by
 obtain⟨os,d,rfl⟩:=h;exact zd hp os d
structure jI (w W:V)(k:Nat):Prop where
 lo:w.heap.size<=k
 fH:fy w W
 at_:∃(A:N VQ) (n c:Nat) (i h:Int) (xs:D UInt8),W.heap[k]?=F (U #[J A n c,C Z i,C Z h] 118 (0,0))/\0<=i/\fQ i/\fQ h/\(nV.sl 5).R w w.heap.size [J A n c] xs
theorem jI.lt (h:jI w W k):k<W.heap.size:=by
 obtain⟨_,_,_,_,_,_,h1,_⟩:=h.at_;exact(blt h1)
theorem jI.to (h:jI w W k)(hb:W'.heap[k]?=W.heap[k]?)(hg:fy w W'):jI w W' k:=by
 obtain⟨A,n,c,i,h',xs,h1,h2⟩:=h.at_;exact⟨h.lo,hg,A,n,c,i,h',xs,by rw[hb];exact h1,h2⟩
theorem jI.more (h:jI w W k)(hg:fy W W'):jI w W' k:=h.to (hg.block h.lt) (h.fH.trans hg)
theorem jI.only (h:jI w W k)(hs:fG S W W')(hk:k∉S)(hS:∀ b∈S,w.heap.size<=b):jI w W' k:=h.to (hs.block k h.lt hk) (hs.fH h.fH hS)
theorem jI.below {w W W':V}{k lo:Nat}(h:jI w W k)(hb:Below lo W W')(hk:k<lo):jI w W' k:=
 h.to (hb.block k hk) (fy.lA (h.fH.below.trans (hb.mono (by have:=h.lo;omega))))
theorem fG.below {lo:Nat} (h:fG S a W)(hb:Below lo W W')(hl:a.heap.size<=lo):fG S a W':=
 ⟨hb.os.trans h.os,hb.tape.trans h.tape,hb.output.trans h.output,VL h.size hb.size,fun i hi hn=>(hb.block i fh).trans (h.block i hi hn)⟩
section
variable {α:Type} {T:Ty α} {e:Wl} {P:Program} {t:Wl} {WZ:Nat} {ops:Array Oper} {rest:D Oper} {o:Oper} {a:Act} {Vc:Exit->Act->V->Prop} {K:Act->V->Prop}
end
theorem Pm (ht:P.underlying t=F (.int .u8)):DJ P t nV:=by
 intro U9 a3 W a0 a2 a1 cs x h;obtain⟨n,rfl,_,hw⟩:=DataW.trod_int ht h;have h1:0<=n/\n<=255:=by simpa[Lit.wf,IntKind.min,IntKind.max,IntKind.signed,IntKind.bits] using hw
 exact⟨_,Kr h1.1 fh⟩
theorem DE (a:Int):∃ n:Nat,bits .and Z a 255=(n:Int)/\n<256:=by
 refine⟨((XP 64 a &&& XP 64 255).toNat),?_,?_⟩
 ·show Vl Z ((XP 64 a &&& XP 64 255).toNat:Int)=_
  rw[BitVec.toNat_and,show (XP 64 255).toNat=2 ^ 8-1 from rfl,Yf];exact iw
 ·rw[BitVec.toNat_and,show (XP 64 255).toNat=2 ^ 8-1 from rfl,Yf]
  omega
theorem Qf {a b c:Value} (h:W.heap[k]?=F (U #[a,b,c] 118 (0,0))) :
  Vg W ⟨k,0,I⟩=F a/\Vg W ⟨k,1,I⟩=F b/\Vg W ⟨k,2,I⟩=F c/\(∀ j,VE W ⟨k,j,I⟩=M):=by
 refine⟨?_,?_,?_,fun j=>by simp[VE,h]⟩
 all_goals
  rw[WC W k _ _ _ (0,0) h]
  rfl
theorem Tc (a b:Int):fQ (bits .and Z a b):=by
 show fQ (Vl Z _);rw[IntKind.wrap_i64];constructor <;> omega
theorem CP (n:Int):fQ (Xr n):=by
 unfold Xr;constructor <;> omega
structure nr (w W0 W:V)(k:Nat)(A:N VQ)(n c:Nat)(i h:Int):Prop where
 lo:w.heap.size<=k
 fH:fy w W
 only:fG [k] W0 W
 jD:W.heap[k]?=F (U #[J A n c,C Z i,C Z h] 118 (0,0))
 i0:0<=i
 i1:fQ i
 h1:fQ h
 read:∃ xs,(nV.sl 5).R w w.heap.size [J A n c] xs
theorem nr.out (U9:nr w W0 W k A n c i h):jI w W k/\fG [k] W0 W:=by
 obtain⟨xs,hx⟩:=U9.read;exact⟨⟨U9.lo,U9.fH,A,n,c,i,h,xs,U9.jD,U9.i0,U9.i1,U9.h1,hx⟩,U9.only⟩
theorem nr.uN {h':Int} (U9:nr w W0 W k A n c i h)(hb:fQ h'):nr w W0 (W.setCell ⟨k,2,I⟩ (C Z h')) k A n c i h':=
 ⟨U9.lo,U9.fH.setRow (p:=⟨k,2,I⟩) U9.lo _,U9.only.setCell (p:=⟨k,2,I⟩) gm _,py U9.jD 2 _,U9.i0,U9.i1,hb,U9.read⟩
theorem nr.Bf {i':Int} (U9:nr w W0 W k A n c i h)(hb0:0<=i')(hb:fQ i'):nr w W0 (W.setCell ⟨k,1,I⟩ (C Z i')) k A n c i' h:=
 ⟨U9.lo,U9.fH.setRow (p:=⟨k,1,I⟩) U9.lo _,U9.only.setCell (p:=⟨k,1,I⟩) gm _,py U9.jD 1 _,hb0,hb,U9.h1,U9.read⟩
theorem nr.drewN {w W0 W:V}{k:Nat}{A:N VQ}{n c:Nat}{i h:Int}(U9:nr w W0 W k A n c i h)(m:Nat):nr w W0 (W.drewN m) k A n c i h:=
 ⟨U9.lo,U9.fH.drewN m,U9.only.trans ((fy.drewN (fy.refl _) m).only _),U9.jD,U9.i0,U9.i1,U9.h1,U9.read⟩
theorem zmb (hC:jI w W k):VK prog 77 #[.pointer (F ⟨k,0,I⟩)] W fun e W'=>∃ x:Nat,e=.returned (C Z (x:Int))/\x<256/\jI w W' k/\fG [k] W W':=by
 obtain⟨a6,a2,A,n,c,i,h,xs,hk,a3,a5,hh,hx⟩:=hC;have H0:nr w W W k A n c i h:=⟨a6,a2,fG.refl _ _,hk,a3,a5,hh,xs,hx⟩
 obtain⟨_,_,hv,ah,ab⟩:=mQ hx;injection hv with hA hn hc
 subst hA hn hc;obtain⟨a8,a9,aa,a1⟩:=Qf hk;have ac:=a1 1;have ad:=a1 2;go_enter func77,ntmps77;go_wp2_with(fail);go_quiet (fail);go_wp2_with(fail);by_cases hlt:i<xs.length
 ·obtain⟨j,rfl⟩:=VI a3
  obtain⟨g,ai,x,ec,rfl,ae,a7,rfl,a0⟩:=pz hx (k:=j) fh;have a4:=lN a2 (a0 0 _ rfl);simp only[show nV.size=1 from rfl,Xo,Wk] at a4;have af:g≠k:=fh;have ag:=x.toNat_lt;clear a0 a7;go_quiet (fail);go_wp2_with(fail);go_quiet (fail);go_wp2_with(fail);go_ret;refine⟨_,WY (fun z=>XA (C Z z)) (DE _).choose_spec.1,(DE _).choose_spec.2,?_,?_⟩
  ·exact(((H0.uN (CP _)).Bf fh ⟨fh,fh⟩).drewN _).out.1
  ·exact(((H0.uN (CP _)).Bf fh ⟨fh,fh⟩).drewN _).out.2
 ·go_quiet (fail)
  go_wp2_with(fail);go_ret;refine⟨_,WY (fun z=>XA (C Z z)) (DE _).choose_spec.1,(DE _).choose_spec.2,?_,?_⟩
  ·exact((H0.uN (CP _)).drewN _).out.1
  ·exact((H0.uN (CP _)).drewN _).out.2
theorem Cn (b:Obj)(n:Nat)(h:n=w.heap.size+os.size:=by rfl):((fH w os d).alloc b).heap[n]?=F b:=by
 subst h;have:=Vj (fH w os d) b;rwa [mJ] at this
theorem tP {g:Prop} (f:g:=by
  go_ret
  refine⟨_,rfl,?_⟩
  exact⟨fh,gG,_,_,_,0,h,xs,Cn _ _,Xv _,⟨fh,fh⟩,hh,hx⟩):g:=f
theorem zzR {xs:D UInt8} (hx:(nV.sl 5).R w w.heap.size [J A n c] xs)(hl:xs.length<=1099511627776):VK prog 32 #[J A n c] w fun e W'=>∃ k,e=.returned (.pointer (F ⟨k,0,I⟩))/\jI w W' k:=by
 have a7:=hx;obtain⟨_,_,hv,a9,a5⟩:=mQ hx;injection hv with hA hn hc
 subst hA hn hc;go_enter func32,ntmps32;go_wp2_with(fail);go_loopw [3,4] (fun a b wr=>∃(h:Int) (j:Nat),a=C Z h/\b=C Z j/\j<=xs.length/\fQ h/\Hid (fy w wr)) (fun _ b _=>xs.length-(Wj b).toNat)
 case atStart=>exact⟨33147+xs.length,0,rfl,rfl,Vu _,⟨fh,fh⟩,fk (fy.refl _)⟩
 case round=>
  obtain⟨h,j,rfl,rfl,hj,hh,hG⟩:=hrel;obtain⟨os,d,rfl⟩:=hG.out;clear hG;by_cases hlt:j<xs.length/\j<4000
  ·obtain⟨a1,a2⟩:=hlt
   obtain⟨g,aa,x,ec,rfl,a6,a4,rfl,a0⟩:=pz hx (k:=j) a1;have a3:=a0 0 _ rfl;simp only[show nV.size=1 from rfl,Xo,Wk] at a3;have a8:=x.toNat_lt;clear a0 a4 hx;go_wp2_with(fail);go_roundw;exact⟨_,j+1,rfl,io,fh,Tc _ _,fk gG⟩;exact iC
  ·by_cases a1:j<xs.length
   ·have a2:¬ j<4000:=fun h=>hlt ⟨a1,h⟩
    go_wp2_with(fail);exact tP
   ·go_wp2_with(fail)
    exact tP
theorem zxS (hC:jI w W k)(n:Nat)(hn:0<n)(hn2:n<=1099511627776):VK prog 36 #[.pointer (F ⟨k,0,I⟩),C Z (n:Int)] W fun e W'=>∃ x:Nat,e=.returned (C Z (x:Int))/\x<n/\jI w W' k/\fG [k] W W':=by
 by_cases h:n<=256
 ·go_enter func36,ntmps36
  go_wp2_with(go_at_call 77;refine(zmb hC).mono ?_;rintro e W1 ⟨x,rfl,hx,a0,a1⟩);go_ret;refine⟨x % n,?_,Y6 _ hn,a0,a1⟩;exact nB (show (x:Int) % (n:Int)=((x % n:Nat):Int) from(Int.natCast_emod x n).symm)
 ·go_enter func36,ntmps36
  go_wp2_with(fail);refine(zmb hC).mono ?_;rintro e W1 ⟨x1,rfl,a8,a0,a1⟩;go_wp2_with(fail);refine(zmb a0).mono ?_;rintro e W2 ⟨x2,rfl,a9,a2,a5⟩;go_wp2_with(fail);refine(zmb a2).mono ?_;rintro e W3 ⟨x3,rfl,aa,a3,a6⟩;go_wp2_with(fail);refine(zmb a3).mono ?_;rintro e W4 ⟨x4,rfl,ab,a4,a7⟩;go_wp2_with(fail);go_ret;refine⟨(x1*16777216+x2*65536+x3*256+x4) % n,?_,Y6 _ hn,a4,((a1.trans a5).trans a6).trans a7⟩;exact nB (show ((x1:Int)*16777216+x2*65536+x3*256+x4) % (n:Int)=(((x1*16777216+x2*65536+x3*256+x4) % n:Nat):Int) from by rw[Int.natCast_emod];rfl)
theorem pT (hC:jI w W k)(n:Int)(hn:0<n)(hn2:n<=1099511627776):VK prog 36 #[.pointer (F ⟨k,0,I⟩),C Z n] W fun e W'=>∃ x:Nat,e=.returned (C Z (x:Int))/\(x:Int)<n/\jI w W' k/\fG [k] W W':=by
 obtain⟨n,rfl⟩:=VI (show 0<=n from fh);refine(zxS hC n fh fh).mono ?_;rintro e W' ⟨x,h1,h2,h3⟩;exact⟨x,h1,fh,h3⟩
theorem zta (hC:jI w W k){A:N VQ}{n c:Nat}{xs:D Int}(hx:(zv.sl 3).R W W.heap.size [J A n c] xs)(hk:∀ ad,A=F ad->ad.block≠k)(h0:0<n)(h1:n<=1000000):VK prog 71 #[.pointer (F ⟨k,0,I⟩),J A n c] W fun e W'=>∃ x:Int,e=.returned (C Z x)/\x∈xs/\jI w W' k/\fG [k] W W':=by
 obtain⟨_,_,hv,a7,a6⟩:=mQ hx;injection hv with hA hn hc
 subst hA hn hc;go_enter func71,ntmps71;go_wp2_with(fail);refine(pT hC xs.length fh fh).mono ?_;rintro e W1 ⟨i,rfl,hi,a2,a1⟩;obtain⟨g,a8,x,ec,rfl,a4,a5,hR,a0⟩:=pz hx (k:=i) fh;obtain⟨rfl,_⟩:=hR;have a3:=(a1.cell a4 (by simpa using hk _ rfl) _).trans (a0 0 _ rfl);simp only[show zv.size=1 from rfl,Xo,Wk] at a3;go_wp2_with(fail);go_ret;exact⟨x,rfl,Vx a5,a2,a1⟩
theorem zyV (A:N VQ)(n c:Nat)(w:V):VK prog 7 #[J A n c] w fun e w'=>e=.returned (X (decide (1048576<(n:Int))))/\fy w w':=by
 go_enter func7,ntmps7;go_wp2_with(fail);go_ret;exact⟨rfl,gG⟩
theorem P7 (a b:D UInt8):(⟨a.toArray⟩:G)++⟨b.toArray⟩=⟨(a++b).toArray⟩:=by
 apply Ip.1;rw[YA,YA];simp
theorem nu {a b:G} (h:a=b):XA (Q a)=.returned (Q b):=by rw[h]
theorem LI {a b:G} (h:a=b):Q a=Q b:=by rw[h]
theorem Ut {α:Type} (f:α->Nat)(xs:D α)(j:Nat):((xs.take j).map f).sum<=(xs.map f).sum:=NW (cnt:=f) xs j
theorem UH {α:Type} (f:α->Nat){xs:D α}{j:Nat}{x:α}(h:xs[j]?=F x):((xs.take (j+1)).map f).sum=((xs.take j).map f).sum+f x:=Qc (cnt:=f) h
def nQ {α:Type}(f:α->Nat)(xs:D α):Nat:=xs.length+(xs.map f).sum
theorem BS {α:Type} (f:α->Nat)(xs:D α):xs.length<=nQ f xs:=X4 _ _
theorem yD {α:Type} (f:α->Nat){xs:D α}{j:Nat}{x:α}(h:xs[j]?=F x):f x<=nQ f xs:=by
 have h1:=UH f h;have h2:=Ut f xs (j+1);unfold nQ;omega
theorem EP:(prog.info? 3).map (fun i=>(i.zero,i.size,i.bytes))=F (F (C Z 0),1,8):=gU
theorem ztg {B:N VQ} (hx:(zv.sl 3).R w w.heap.size [J A xs.length c] xs)(hy:(zv.sl 3).R w w.heap.size [J B xs.length d] xs)(hl:xs.length<=1099511627776) :
  VK prog 12 #[J A xs.length c,J B xs.length d] w fun e w'=>e=.returned (X H)/\fy w w':=by
 go_enter func12,ntmps12;go_wp2_with(fail);go_loopw [5] (fun z wr=>∃ j:Nat,z=C Z (j:Int)/\j<=xs.length/\Hid (fy w wr)) (fun z _=>xs.length-(Wj z).toNat)
 case atStart=>exact⟨0,rfl,Vu _,fk gG⟩
 obtain⟨j,rfl,hj,HG⟩:=hrel;by_cases hlt:j<xs.length
 ·have a1:(j:Int)<(xs.length:Int):=fh
  have a5:Vl Z ((j:Int)+1)=(j:Int)+1:=iw;obtain⟨g,o,x,hA,a2,a4,_⟩:=ma (Ty.up _ hx HG.out) (k:=j) hlt;obtain⟨g2,o2,x2,hB,a0,a3,_⟩:=ma (Ty.up _ hy HG.out) (k:=j) hlt;have e:x=x2:=by rw[a2] at a0;injection a0
  subst e;subst hA hB;have hb:((x != x):Bool)=M:=gm;clear hx hy a2 a0;go_wp2_with(fail);go_quiet (fail);go_wp2_with(fail);go_roundw;exact⟨j+1,io,fh,fk (HG.out.trans gF)⟩;exact iC
 ·have a1:¬ (j:Int)<(xs.length:Int):=fh
  go_wp2_with(fail);go_ret;exact⟨rfl,HG.out⟩
def vP (c:UInt8):Bool:=decide (97<=(c.toNat:Int)) && decide ((c.toNat:Int)<=122)
def mN (s:G):Bool:=s.data.toList.all vP && gE s.size 1 8
theorem Aq (s:G)(k:Nat)(h:k<s.size):s.data.toList[k]?=F s[k]:=by
 rw[Vq (by simpa using h)];rfl
theorem Oq {α:Type} {xs:D α} {f:α->Bool} {x:α} (h:xs[j]?=F x)(ha:(xs.take j).all f=H)(hf:f x=H):(xs.take (j+1)).all f=H:=by
 rw[yB h,XU,ha];simp[hf]
theorem Hn {α:Type} {xs:D α} {f:α->Bool} {x:α} (h:xs[j]?=F x)(hf:f x=M):xs.all f=M:=by
 rw[List.all_eq_false];exact⟨x,Vx h,by simp[hf]⟩
theorem wH {g:Prop} (f:g:=by
  by_cases h1:97<=(s[k].toNat:Int)
  ·by_cases h2:(s[k].toNat:Int)<=122
   ·go_wp2
    go_round
    exact⟨k+1,fh,io,fk (Oq HX.out ha.out (by simp only[vP,Vt,VD];exact⟨h1,h2⟩))⟩
    exact iC
   ·have HF:=fk (Hn (f:=vP) HX.out (by simp only[vP,X6,WA];exact .inr h2))
    go_wp2
    go_ret
    exact⟨zp (by unfold mN;rw[HF.out];rfl),rfl⟩
  ·have HF:=fk (Hn (f:=vP) HX.out (by simp only[vP,X6,WA];exact .inl h1))
   go_wp2
   go_ret
   exact⟨zp (by unfold mN;rw[HF.out];rfl),rfl⟩):g:=f
theorem KM (s:G)(w:V)(hs:s.size<=9223372036854775807):VK prog 143 #[Q s] w fun e w'=>e=.returned (X (mN s))/\w=w':=by
 go_enter func143,ntmps143;go_wp2_with(fail);go_loop [3] (fun i=>∃ k:Nat,k<=s.size/\i=C Z k/\Hid ((s.data.toList.take k).all vP=H)) (fun i=>s.size-(Wj i).toNat)
 case atStart=>exact⟨0,Vu _,rfl,fk gm⟩
 case round=>
  obtain⟨k,hk,rfl,ha⟩:=hrel;by_cases hlt:k<s.size
  ·have HX:=fk (Aq s k hlt)
   exact wH
  ·have a0:k=s.size:=fh
   subst a0;have HA:=fk (show mN s=gE s.size 1 8 from by unfold mN;rw[<-WG (l:=s.data.toList)];have:=ha.out;rw[show s.size=s.data.toList.length from by rw[Wg];rfl] at this;rw[this];rfl);clear ha;go_wp2_with(first | (go_at_call 38;refine(lf _ _ _ _).mono ?_;rintro e w1 ⟨rfl,rfl⟩));go_ret;exact⟨zp HA.out.symm,rfl⟩
theorem tg (s:G)(w:V)(hs:s.size<=9223372036854775807):VK prog 133 #[Q s] w fun e w'=>e=.returned (X (mN s))/\w=w':=by
 go_enter func133,ntmps133;go_wp2_with(fail);go_loop [3] (fun i=>∃ k:Nat,k<=s.size/\i=C Z k/\Hid ((s.data.toList.take k).all vP=H)) (fun i=>s.size-(Wj i).toNat)
 case atStart=>exact⟨0,Vu _,rfl,fk gm⟩
 case round=>
  obtain⟨k,hk,rfl,ha⟩:=hrel;by_cases hlt:k<s.size
  ·have HX:=fk (Aq s k hlt)
   exact wH
  ·have a0:k=s.size:=fh
   subst a0;have HA:=fk (show mN s=gE s.size 1 8 from by unfold mN;rw[<-WG (l:=s.data.toList)];have:=ha.out;rw[show s.size=s.data.toList.length from by rw[Wg];rfl] at this;rw[this];rfl);clear ha;go_wp2_with(first | (go_at_call 43;refine(iU _ _ _ _).mono ?_;rintro e w1 ⟨rfl,rfl⟩));go_ret;exact⟨zp HA.out.symm,rfl⟩
theorem JZ {α:Type} {T:Ty α} (hf:lL T){W0 W W1:V}{B:Nat}{ec:D Value}{x:α}(hR:T.R W1 B ec x)(hg:fy W0 W){g:Nat}(hgW:g=W.heap.size):gH (T.sl e) W0 (W.alloc (U ec.toArray e)) [J (F ⟨g,0,I⟩) 1 1] [x]:=by
 subst hgW;refine⟨[W.heap.size],qG (xs:=[x]) (Vj W _) (show gz T _ ec.toArray.toList [x] [] from⟨ec,[],[],[],gm,rfl,hf hR _,rfl,rfl⟩) gm,gm,fun b hb=>?_⟩;simp at hb;subst hb;exact hg.size
def Has {α:Type}(T:Ty α)(W:V)(cs:D Value)(x:α)(S:D Nat):Prop:=T.O W cs x S/\S.Nodup
theorem Has.lt {α:Type} {T:Ty α} {x:α} (h:Has T W cs x S):∀ b∈S,b<W.heap.size:=T.jQ h.1
theorem Has.read {α:Type}{T:Ty α}{W:V}{cs:D Value}{x:α}{S:D Nat}(h:Has T W cs x S):T.R W W.heap.size cs x:=T.read h.1
theorem Has.gu {α:Type} {T:Ty α} {x:α} {L:D Nat} (h:Has T W cs x S)(ho:fG L W W')(hd:∀ b∈S,b∉L):Has T W' cs x S:=
 ⟨T.iA h.1 (fun k hk=>ho.block k (h.lt k hk) (hd k hk)),h.2⟩
theorem Has.fH {α:Type} {T:Ty α} {x:α} (h:Has T W cs x S)(hg:fy W W'):Has T W' cs x S:=⟨T.jG h.1 hg,h.2⟩
theorem Has.fresh {α:Type} {T:Ty α} {x:α} (h:Has T W cs x S)(hl:∀ b∈S,w.heap.size<=b):gH T w W cs x:=⟨S,h.1,h.2,hl⟩
theorem gH.has {α:Type} {T:Ty α} {x:α} (h:gH T w W cs x):∃ S,Has T W cs x S/\∀ b∈S,w.heap.size<=b:=by
 obtain⟨S,h1,h2,h3⟩:=h;exact⟨S,⟨h1,h2⟩,h3⟩
theorem Has.same {α:Type} {T:Ty α} {x:α} (h:Has T W cs x S)(hl:∀ b∈S,n<=b)(hs:gV n W.heap.size W W'):Has T W' cs x S:=
 ⟨T.iA h.1 (fun k hk=>hs k (hl k hk) (h.lt k hk)),h.2⟩
theorem Has.prod {α β:Type}{T:Ty α}{U7:Ty β}{W:V}{c1 c2:D Value}{x:α × β}{S:D Nat}(hl:c1.length=T.size)(h:Has (T.prod U7) W (c1++c2) x S):∃ S1 S2,Has T W c1 x.1 S1/\Has U7 W c2 x.2 S2/\(∀ b∈S1,b∈S)/\(∀ b∈S2,b∈S)/\∀ b∈S1,b∉S2:=by
 obtain⟨⟨d1,d2,S1,S2,he,rfl,h1,h2⟩,hN⟩:=h;have a0:=T.kQ h1;have h3:c1=d1/\c2=d2:=List.append_inj he fh;obtain⟨rfl,rfl⟩:=h3;obtain⟨n1,n2,n3,_⟩:=Mt hN;exact⟨S1,S2,⟨h1,n1⟩,⟨h2,n2⟩,fun b hb=>VN _ hb,fun b hb=>VV _ hb,n3⟩
theorem Has.nil {α:Type} (T:Ty α)(e:Wl)(W:V):Has (T.sl e) W [J I 0 0] [] []:=by
 obtain⟨S,h1,h2,h3⟩:=yC (T:=T) (e:=e) W W;refine⟨?_,gm⟩;obtain⟨A',c',a0,S',h4,h5,h6,h7⟩:=h1;injection h4 with h4 _
 injection h4 with hA hn hc
 subst hA hc;obtain⟨h8,h9⟩:=h6;exact⟨I,0,a0,[],rfl,h5,⟨h8,rfl⟩,rfl⟩
theorem Has.iK {α:Type} (T:Ty α){e:Wl}{W:V}{g:Nat}(hg:W.heap[g]?=F (U #[] e (0,0))):Has (T.sl e) W [J (F ⟨g,0,I⟩) 0 0] [] [g]:=
 ⟨qG (T:=T) (xs:=[]) hg ⟨rfl,rfl⟩ gm,gm⟩
section
variable {α:Type} {T:Ty α} {e:Wl} {P:Program} {t ty:Wl} {WZ:Nat}
theorem Bl (hE:iZ P t e T WZ){W:V}{S:D Nat}{A:N VQ}{n c:Nat}{xs:D α}(h:Has (T.sl e) W [J A n c] xs S)
  {ad:VQ} {m c':Nat} {ys:D α} {news:D Value} {Sy:D Nat} (hr:gz T W news ys Sy) (hm:m=ys.length) (hcell:∀ j u,news[j]?=F u->W.cell? (ad.add j)=F u)
  (hSy:Sy.Nodup) (hd:∀ b∈S,b∉Sy) {L:Nat} (hL:L=n+m) (hb:L*WZ<=140737488355328) (h63:L<=9223372036854775807) :
  ∃ A' c'' W' S',(WS #[t,t] ty #[J A n c,J (F ad) m c']).run P W=.ok (J A' L c'') W'/\fG S W W'/\Has (T.sl e) W' [J A' L c''] (xs++ys) S'/\∀ b∈S',b∈S∨b∈Sy∨W.heap.size<=b:=by
 subst hL;obtain⟨hO,hN⟩:=h;obtain⟨A1,c1,a5,S',hv,aa,hrow,rfl⟩:=hO;injection hv with hv _
 injection hv with hA hn hc
 subst hA hc;have a7:n=xs.length:=hn;obtain⟨i,z,hi,hz,a4,a9,ac⟩:=hE.qy;have a6:news.length=m*T.size:=by rw[hr.len,hm]
 obtain⟨v',W',a8,hown,a0,_,hat⟩:=run_append_own_at (P:=P) W 0 t ty e i z T.size WZ hE.ht hi hz a4 a9 ac hE.pos (J A xs.length c) xs.length a5 aa ad m c' news a6 hcell hr.one
  (by rw[<-a7];simpa[maxLen] using h63) (by rw[<-a7];exact hb) (Vu _)
 subst a7
 have a1:∀ k,k<W.heap.size->(∀ b∈lT A,k≠b)->W'.heap[k]?=W.heap[k]?:=fun k hk hne=>a0.block k hk (by
  cases A with
  | none=>simp[XF]
  | some a=>simpa[XF,lT] using hne)
 rw[Wb] at hN;obtain⟨ae,hN2,hN3⟩:=hN;have a3:gz T W' a5 xs S':=hrow.gu (fun k hk=>a1 k (hrow.lt k hk) (fun b hb=>(hN3 b hb k hk).symm));have ab:gz T W' news ys Sy:=hr.gu (fun k hk=>a1 k (hr.lt k hk) (fun b hb heq=>hd b (VN _ hb) (heq ▸ hk)))
 have a2:∃ A' c'',v'=J A' (xs.length+m) c''/\∀ b∈lT A',b∈lT A∨b=W.heap.size:=by
  exact wR
 obtain⟨A',c'',rfl,hA'⟩:=a2
 refine⟨A',c'',W',lT A'++(S'++Sy),a8,⟨a0.os,a0.tape,a0.output,a0.size,fun k hk hn=>a1 k hk (fun b hb heq=>hn (VN _ (heq ▸ hb)))⟩,
  ⟨⟨A',c'',a5++news,S'++Sy,by rw[Vk,hm],by rw[Vk,<-hm];exact hown,a3.l5 ab,rfl⟩,?_⟩,?_⟩
 ·rw[Wb]
  exact wI
 ·intro b hb
  rcases VA.1 hb with hb | hb
  ·rcases hA' b hb with h | h
   ·exact .inl (VN _ h)
   ·exact .inr (.inr fh)
  ·rcases VA.1 hb with hb | hb
   ·exact .inl (VV _ hb)
   ·exact .inr (.inl hb)
theorem Gi (hE:iZ P t e T WZ){W:V}{S:D Nat}{A:N VQ}{n c:Nat}{xs:D α}(h:Has (T.sl e) W [J A n c] xs S)(c':Nat) :
  (WS #[t,t] ty #[J A n c,J I 0 c']).run P W=.ok (J A n c) W:=
 Gj (W0:={ W with heap:=#[] }) hE ⟨S,h.1,h.2,fun b _=>Vu _⟩ c'
end
section
variable {α:Type} {T:Ty α} {e:Wl} {P:Program} {t:Wl} {WZ:Nat} {ops:Array Oper} {rest:D Oper} {o:Oper} {a:Act} {Vc:Exit->Act->V->Prop} {K:Act->V->Prop}
theorem Bh {E:Prop} (hgd:o.guard=I)(s x:Operand)(hE:iZ P t e T WZ){W:V}{g cc:Nat}{S Sy:D Nat}{A:N VQ}{n c:Nat}{xs:D α}(h:Has (T.sl e) W [J A n c] xs S)
  {ec:D Value} {y:α} (hy:Has T W ec y Sy) (hd:∀ b∈S,b∉Sy)
  (ho:o.op=.call { callee:=.builtin .append,args:=#[s,x],argTypes:=#[t,t] }) (hs:a.eval s=J A n c) (hx:a.eval x=J (F ⟨g,0,I⟩) 1 cc)
  (hcell:∀(j:Nat) (u:Value),ec[j]?=F u->Vg W ⟨g,j,I⟩=F u)
  {L:Nat} (hL:L=n+1) (hb:L*WZ<=140737488355328) (h63:L<=9223372036854775807)
  (hK:∀ A' c'' W' S',fG S W W'->Has (T.sl e) W' [J A' L c''] (xs++[y]) S'->(∀ b∈S',b∈S∨b∈Sy∨W.heap.size<=b)->K (a.put o.dst (J A' L c'')) W'):if V6 o (Xb ops a.tmps)=H then Oper.wp P o a W K Vc else E:=by
 have hw:V6 o (Xb ops a.tmps)=H:=by simp[V6,hgd]
 rw[Vs hw];obtain⟨A',c'',W',S',a0,a2,hF,a1⟩:=Bl (P:=P) (ty:=o.type) hE h (ad:=⟨g,0,I⟩) (m:=1) (c':=cc) (ys:=[y]) (news:=ec) (Sy:=Sy) ⟨ec,[],Sy,[],by simp,by simp,hy.1,rfl,rfl⟩ rfl (fun j u hu=>by rw[XO,VJ];exact hcell j u hu) hy.2 hd hL hb h63;exact vG s x ho hs hx a0 (hK A' c'' W' S' a2 hF a1)
theorem zJ (hgd:o.guard=I)(s x:Operand)(hE:iZ P t e T WZ){W:V}{g cc:Nat}{S Sy:D Nat}{A:N VQ}{n c:Nat}{xs:D α}(h:Has (T.sl e) W [J A n c] xs S)
  {ec:D Value} {y:α} (hy:Has T W ec y Sy) (hd:∀ b∈S,b∉Sy)
  (ho:o.op=.call { callee:=.builtin .append,args:=#[s,x],argTypes:=#[t,t] }) (hs:a.eval s=J A n c) (hx:a.eval x=J (F ⟨g,0,I⟩) 1 cc)
  (hcell:∀(j:Nat) (u:Value),ec[j]?=F u->Vg W ⟨g,j,I⟩=F u)
  {L:Nat} (hL:L=n+1) (hb:L*WZ<=140737488355328) (h63:L<=9223372036854775807)
  (hK:∀ A' c'' W' S',fG S W W'->Has (T.sl e) W' [J A' L c''] (xs++[y]) S'->(∀ b∈S',b∈S∨b∈Sy∨W.heap.size<=b)->wpList P ops Vc rest (a.put o.dst (J A' L c'')) W'):wpList P ops Vc (o::rest) a W:=
 YJ hgd fun K hKK=>by
  obtain⟨A',c'',W',S',a0,a2,hF,a1⟩:=Bl (P:=P) (ty:=o.type) hE h (ad:=⟨g,0,I⟩) (m:=1) (c':=cc) (ys:=[y]) (news:=ec) (Sy:=Sy) ⟨ec,[],Sy,[],gm,gm,hy.1,rfl,rfl⟩ rfl (fun j u hu=>by rw[XO,VJ];exact hcell j u hu) hy.2 hd hL hb h63;exact vG s x ho hs hx a0 (hKK _ _ (hK A' c'' W' S' a2 hF a1))
theorem sv {E:Prop} (hgd:o.guard=I)(s x:Operand)(hE:iZ P t e T WZ)(hf:lL T){W W1:V}{B g cc:Nat}{S:D Nat}{A:N VQ}{n c:Nat}{xs:D α}(h:Has (T.sl e) W [J A n c] xs S)
  {ec:D Value} {y:α} (hy:T.R W1 B ec y)
  (ho:o.op=.call { callee:=.builtin .append,args:=#[s,x],argTypes:=#[t,t] }) (hs:a.eval s=J A n c) (hx:a.eval x=J (F ⟨g,0,I⟩) 1 cc)
  (hcell:∀(j:Nat) (u:Value),ec[j]?=F u->Vg W ⟨g,j,I⟩=F u)
  {L:Nat} (hL:L=n+1) (hb:L*WZ<=140737488355328) (h63:L<=9223372036854775807)
  (hK:∀ A' c'' W' S',fG S W W'->Has (T.sl e) W' [J A' L c''] (xs++[y]) S'->(∀ b∈S',b∈S∨W.heap.size<=b)->K (a.put o.dst (J A' L c'')) W'):if V6 o (Xb ops a.tmps)=H then Oper.wp P o a W K Vc else E:=
 Bh hgd s x hE h (Sy:=[]) ⟨hf hy W,by simp⟩ (by simp) ho hs hx hcell hL hb h63 (fun A' c'' W' S' h1 h2 h3=>hK A' c'' W' S' h1 h2 (fun b hb=>by have:=h3 b hb;simpa using this))
theorem zG (hgd:o.guard=I)(s x:Operand)(hE:iZ P t e T WZ)(hf:lL T){W W1:V}{B g cc:Nat}{S:D Nat}{A:N VQ}{n c:Nat}{xs:D α}(h:Has (T.sl e) W [J A n c] xs S)
  {ec:D Value} {y:α} (hy:T.R W1 B ec y)
  (ho:o.op=.call { callee:=.builtin .append,args:=#[s,x],argTypes:=#[t,t] }) (hs:a.eval s=J A n c) (hx:a.eval x=J (F ⟨g,0,I⟩) 1 cc)
  (hcell:∀(j:Nat) (u:Value),ec[j]?=F u->Vg W ⟨g,j,I⟩=F u)
  {L:Nat} (hL:L=n+1) (hb:L*WZ<=140737488355328) (h63:L<=9223372036854775807)
  (hK:∀ A' c'' W' S',fG S W W'->Has (T.sl e) W' [J A' L c''] (xs++[y]) S'->(∀ b∈S',b∈S∨W.heap.size<=b)->wpList P ops Vc rest (a.put o.dst (J A' L c'')) W'):wpList P ops Vc (o::rest) a W:=
 zJ hgd s x hE h (Sy:=[]) ⟨hf hy W,gm⟩ gm ho hs hx hcell hL hb h63 (fun A' c'' W' S' h1 h2 h3=>hK A' c'' W' S' h1 h2 (fun b hb=>by have:=h3 b hb;simpa using this))
theorem Gp (hE:iZ P t e T WZ)(hf:lL T){ty:Wl}{W:V}{S:D Nat}{A:N VQ}{n c:Nat}{xs:D α}(h:Has (T.sl e) W [J A n c] xs S)
  {B:Nat} {e':Wl} {A2:N VQ} {m c2:Nat} {ys:D α} (hy:(T.sl e').R W B [J A2 m c2] ys)
  {L:Nat} (hL:L=n+m) (hb:L*WZ<=140737488355328) (h63:L<=9223372036854775807) :
  ∃ A' c'' W' S',(WS #[t,t] ty #[J A n c,J A2 m c2]).run P W=.ok (J A' L c'') W'/\fG S W W'/\Has (T.sl e) W' [J A' L c''] (xs++ys) S'/\∀ b∈S',b∈S∨W.heap.size<=b:=by
 obtain⟨A3,c3,hv,h1,h2,h3,h4⟩:=hy;injection hv with hv _
 injection hv with hA hn hc
 subst hA hn hc;rcases XL ys.length with h0 | h0
 ·have a1:ys = []:=Xu h0
  subst a1;subst hL;cases A2 with
  | none=>exact⟨A,c,W,S,Gi hE h _,fG.refl _ _,by simpa using h,fun b hb=>.inl hb⟩
  | some ad=>
   obtain⟨A',c'',W',S',k1,k2,k3,k4⟩:=Bl (P:=P) (ty:=ty) hE h (ad:=ad) (m:=0) (c':=c2) (news:=[]) (ys:=[]) (Sy:=[]) ⟨rfl,rfl⟩ rfl (fun j u hu=>by simp at hu) (by simp) (by simp) rfl hb h63;exact⟨A',c'',W',S',k1,k2,k3,fun b hb=>by have:=k4 b hb;simpa using this⟩
 ·obtain⟨g,off,rfl,a2,h5⟩:=h4 h0
  obtain⟨cs,hr,hl,hc⟩:=Cy (w':=W) hf (g:=g) (off:=off) ys 0 (fun i x hx=>by
   obtain⟨ec,hR,a0⟩:=h5 i x hx
   exact⟨ec,hR,fun j u hu=>by rw[VJ];exact a0 j u hu⟩)
  obtain⟨A',c'',W',S',k1,k2,k3,k4⟩:=Bl (P:=P) (ty:=ty) hE h (ad:=⟨g,off,I⟩) hr rfl (fun j u hu=>by rw[XO];simpa using hc j u hu) (by simp) (by simp) hL hb h63;exact⟨A',c'',W',S',k1,k2,k3,fun b hb=>by have:=k4 b hb;simpa using this⟩
theorem rj {E:Prop} (hgd:o.guard=I)(s x:Operand)(hE:iZ P t e T WZ)(hf:lL T){W:V}{S:D Nat}{A:N VQ}{n c:Nat}{xs:D α}(h:Has (T.sl e) W [J A n c] xs S)
  {B:Nat} {e':Wl} {A2:N VQ} {m c2:Nat} {ys:D α} (hy:(T.sl e').R W B [J A2 m c2] ys)
  (ho:o.op=.call { callee:=.builtin .append,args:=#[s,x],argTypes:=#[t,t] }) (hs:a.eval s=J A n c) (hx:a.eval x=J A2 m c2)
  {L:Nat} (hL:L=n+m) (hb:L*WZ<=140737488355328) (h63:L<=9223372036854775807)
  (hK:∀ A' c'' W' S',fG S W W'->Has (T.sl e) W' [J A' L c''] (xs++ys) S'->(∀ b∈S',b∈S∨W.heap.size<=b)->K (a.put o.dst (J A' L c'')) W'):if V6 o (Xb ops a.tmps)=H then Oper.wp P o a W K Vc else E:=by
 have hw:V6 o (Xb ops a.tmps)=H:=by simp[V6,hgd]
 rw[Vs hw];obtain⟨A',c'',W',S',a0,a2,hF,a1⟩:=Gp (P:=P) (ty:=o.type) hE hf h hy hL hb h63;exact vG s x ho hs hx a0 (hK A' c'' W' S' a2 hF a1)
theorem yZ (hgd:o.guard=I)(s x:Operand)(hE:iZ P t e T WZ)(hf:lL T){W:V}{S:D Nat}{A:N VQ}{n c:Nat}{xs:D α}(h:Has (T.sl e) W [J A n c] xs S)
  {B:Nat} {e':Wl} {A2:N VQ} {m c2:Nat} {ys:D α} (hy:(T.sl e').R W B [J A2 m c2] ys)
  (ho:o.op=.call { callee:=.builtin .append,args:=#[s,x],argTypes:=#[t,t] }) (hs:a.eval s=J A n c) (hx:a.eval x=J A2 m c2)
  {L:Nat} (hL:L=n+m) (hb:L*WZ<=140737488355328) (h63:L<=9223372036854775807)
  (hK:∀ A' c'' W' S',fG S W W'->Has (T.sl e) W' [J A' L c''] (xs++ys) S'->(∀ b∈S',b∈S∨W.heap.size<=b)->wpList P ops Vc rest (a.put o.dst (J A' L c'')) W'):wpList P ops Vc (o::rest) a W:=
 YJ hgd fun K hKK=>by
  obtain⟨A',c'',W',S',a0,a2,hF,a1⟩:=Gp (P:=P) (ty:=o.type) hE hf h hy hL hb h63;exact vG s x ho hs hx a0 (hKK _ _ (hK A' c'' W' S' a2 hF a1))
end
structure mT where
 Code:Int
 iz:Int
 deriving DecidableEq
def um:Ty mT:=(zv.prod zv).via fun x=>(x.Code,x.iz)
theorem LA {x:mT} (h0:fQ x.Code)(h1:fQ x.iz):um.R w B [C Z x.Code,C Z x.iz] x:=by
 exact⟨[C Z x.Code],[C Z x.iz],rfl,⟨rfl,h0.1,h0.2⟩,⟨rfl,h1.1,h1.2⟩⟩
theorem PR:(prog.info? 142).map (fun i=>(i.zero,i.size,i.bytes))=F (F (.agg #[C Z 0,C Z 0]),2,16):=gU
theorem LL:lL um:=AA _ (qH zI zI)
theorem Ml:iZ prog 195 142 um 16:=by
 obtain⟨i0,hi,a0,a1,a2⟩:=Xt PR;exact⟨underlying195,⟨i0,_,hi,a0,a1,a2,rfl⟩,gv⟩
structure iq where
 fC:Int
 iY:Int
 fJ:G
 deriving DecidableEq
def jY:Ty iq:=(zv.prod (zv.prod jB)).via fun x=>(x.fC,x.iY,x.fJ)
theorem UJ {x:iq} (h:jY.R w B cs x):cs = [C Z x.fC,C Z x.iY,Q x.fJ]/\fQ x.fC/\fQ x.iY/\x.fJ.size<=9223372036854775807:=by
 obtain⟨_,_,rfl,⟨rfl,a0,a2⟩,⟨_,_,rfl,⟨rfl,a3,a4⟩,⟨rfl,a1⟩⟩⟩:=h;exact⟨rfl,⟨a0,a2⟩,⟨a3,a4⟩,a1⟩
theorem uX {x:iq} (h0:fQ x.fC)(h1:fQ x.iY)(h2:x.fJ.size<=9223372036854775807):jY.R w B [C Z x.fC,C Z x.iY,Q x.fJ] x:=by
 exact⟨[C Z x.fC],[C Z x.iY,Q x.fJ],rfl,⟨rfl,h0.1,h0.2⟩,⟨[C Z x.iY],[Q x.fJ],rfl,⟨rfl,h1.1,h1.2⟩,⟨rfl,h2⟩⟩⟩
theorem Tx {x:iq} (h0:fQ x.fC)(h1:fQ x.iY)(h2:x.fJ.size<=9223372036854775807):jY.O w [C Z x.fC,C Z x.iY,Q x.fJ] x ([]):=by
 exact⟨[C Z x.fC],[C Z x.iY,Q x.fJ],[],([]++[]),rfl,rfl,⟨rfl,h0.1,h0.2,rfl⟩,⟨[C Z x.iY],[Q x.fJ],[],[],rfl,rfl,⟨rfl,h1.1,h1.2,rfl⟩,⟨rfl,h2,rfl⟩⟩⟩
structure fB where
 fC:Int
 fJ:G
 gD:D G
 Expr:D iq
 deriving DecidableEq
def zS:Ty fB:=(zv.prod (jB.prod ((jB.sl 9).prod (jY.sl 160)))).via fun x=>(x.fC,x.fJ,x.gD,x.Expr)
theorem TM {x:fB} (h:zS.R w B cs x):∃ A0 c0 A1 c1,cs = [C Z x.fC,Q x.fJ,J A0 x.gD.length c0,J A1 x.Expr.length c1]/\fQ x.fC/\x.fJ.size<=9223372036854775807/\(jB.sl 9).R w B [J A0 x.gD.length c0] x.gD/\(jY.sl 160).R w B [J A1 x.Expr.length c1] x.Expr:=by
 obtain⟨_,_,rfl,⟨rfl,a2,a4⟩,⟨_,_,rfl,⟨rfl,a3⟩,⟨_,_,rfl,a0,a1⟩⟩⟩:=h;obtain⟨A0,c0,rfl,_⟩:=id a0;obtain⟨A1,c1,rfl,_⟩:=id a1;exact⟨A0,c0,A1,c1,rfl,⟨a2,a4⟩,a3,a0,a1⟩
theorem TL {x:fB} (h:zS.O w cs x S):∃ A0 c0 S0 A1 c1 S1,cs = [C Z x.fC,Q x.fJ,J A0 x.gD.length c0,J A1 x.Expr.length c1]/\S=S0++S1/\fQ x.fC/\x.fJ.size<=9223372036854775807/\(jB.sl 9).O w [J A0 x.gD.length c0] x.gD S0/\(jY.sl 160).O w [J A1 x.Expr.length c1] x.Expr S1:=by
 obtain⟨_,_,_,_,rfl,rfl,⟨rfl,a2,a4,rfl⟩,⟨_,_,_,_,rfl,rfl,⟨rfl,a3,rfl⟩,⟨_,_,_,_,rfl,rfl,a0,a1⟩⟩⟩:=h;obtain⟨A0,c0,_,_,rfl,_⟩:=id a0;obtain⟨A1,c1,_,_,rfl,_⟩:=id a1;exact⟨A0,c0,_,A1,c1,_,rfl,gm,⟨a2,a4⟩,a3,a0,a1⟩
theorem By {x:fB} (A0:N VQ)(c0:Nat)(S0:D Nat)(A1:N VQ)(c1:Nat)(S1:D Nat)(h0:fQ x.fC)(h1:x.fJ.size<=9223372036854775807)(h2:(jB.sl 9).O w [J A0 x.gD.length c0] x.gD S0)(h3:(jY.sl 160).O w [J A1 x.Expr.length c1] x.Expr S1):zS.O w [C Z x.fC,Q x.fJ,J A0 x.gD.length c0,J A1 x.Expr.length c1] x (S0++S1):=by
 have h:zS.O w [C Z x.fC,Q x.fJ,J A0 x.gD.length c0,J A1 x.Expr.length c1] x ([]++([]++(S0++S1))):=⟨[C Z x.fC],[Q x.fJ,J A0 x.gD.length c0,J A1 x.Expr.length c1],[],([]++(S0++S1)),rfl,rfl,⟨rfl,h0.1,h0.2,rfl⟩,⟨[Q x.fJ],[J A0 x.gD.length c0,J A1 x.Expr.length c1],[],(S0++S1),rfl,rfl,⟨rfl,h1,rfl⟩,⟨[J A0 x.gD.length c0],[J A1 x.Expr.length c1],S0,S1,rfl,rfl,h2,h3⟩⟩⟩
 simpa using h
structure gP where
 gW:Int
 gN:Int
 iO:Bool
 ic:Bool
 deriving DecidableEq
structure fX where
 Op:mT
 fZ:Int
 fA:Bool
 fP:D Int
 fT:Int
 fU:Bool
 deriving DecidableEq
def qS:Ty fX:=(um.prod (zv.prod (BZ.prod ((zv.sl 3).prod (zv.prod BZ))))).via fun x=>(x.Op,x.fZ,x.fA,x.fP,x.fT,x.fU)
theorem TK {x:fX} (h:qS.R w B cs x):∃ A0 c0,cs = [C Z x.Op.Code,C Z x.Op.iz,C Z x.fZ,X x.fA,J A0 x.fP.length c0,C Z x.fT,X x.fU]/\fQ x.Op.Code/\fQ x.Op.iz/\fQ x.fZ/\(zv.sl 3).R w B [J A0 x.fP.length c0] x.fP/\fQ x.fT:=by
 obtain⟨_,_,rfl,⟨_,_,rfl,⟨rfl,a0,a1⟩,⟨rfl,a3,a4⟩⟩,⟨_,_,rfl,⟨rfl,a7,a8⟩,⟨_,_,rfl,rfl,⟨_,_,rfl,a2,⟨_,_,rfl,⟨rfl,a5,a6⟩,rfl⟩⟩⟩⟩⟩:=h;obtain⟨A0,c0,rfl,_⟩:=id a2;exact⟨A0,c0,rfl,⟨a0,a1⟩,⟨a3,a4⟩,⟨a7,a8⟩,a2,⟨a5,a6⟩⟩
theorem Lz {x:fX} (h:qS.O w cs x S):∃ A0 c0 S0,cs = [C Z x.Op.Code,C Z x.Op.iz,C Z x.fZ,X x.fA,J A0 x.fP.length c0,C Z x.fT,X x.fU]/\S=S0/\fQ x.Op.Code/\fQ x.Op.iz/\fQ x.fZ/\(zv.sl 3).O w [J A0 x.fP.length c0] x.fP S0/\fQ x.fT:=by
 obtain⟨_,_,_,_,rfl,rfl,⟨_,_,_,_,rfl,rfl,⟨rfl,a0,a1,rfl⟩,⟨rfl,a3,a4,rfl⟩⟩,⟨_,_,_,_,rfl,rfl,⟨rfl,a7,a8,rfl⟩,⟨_,_,_,_,rfl,rfl,⟨rfl,rfl⟩,⟨_,_,_,_,rfl,rfl,a2,⟨_,_,_,_,rfl,rfl,⟨rfl,a5,a6,rfl⟩,⟨rfl,rfl⟩⟩⟩⟩⟩⟩:=h;obtain⟨A0,c0,_,_,rfl,_⟩:=id a2;exact⟨A0,c0,_,rfl,gm,⟨a0,a1⟩,⟨a3,a4⟩,⟨a7,a8⟩,a2,⟨a5,a6⟩⟩
theorem Fh {x:fX} (A0:N VQ)(c0:Nat)(S0:D Nat)(h0:fQ x.Op.Code)(h1:fQ x.Op.iz)(h2:fQ x.fZ)(h3:(zv.sl 3).O w [J A0 x.fP.length c0] x.fP S0)(h4:fQ x.fT):qS.O w [C Z x.Op.Code,C Z x.Op.iz,C Z x.fZ,X x.fA,J A0 x.fP.length c0,C Z x.fT,X x.fU] x (S0):=by
 have h:qS.O w [C Z x.Op.Code,C Z x.Op.iz,C Z x.fZ,X x.fA,J A0 x.fP.length c0,C Z x.fT,X x.fU] x (([]++[])++([]++([]++(S0++([]++[]))))):=⟨[C Z x.Op.Code,C Z x.Op.iz],[C Z x.fZ,X x.fA,J A0 x.fP.length c0,C Z x.fT,X x.fU],([]++[]),([]++([]++(S0++([]++[])))),rfl,rfl,⟨[C Z x.Op.Code],[C Z x.Op.iz],[],[],rfl,rfl,⟨rfl,h0.1,h0.2,rfl⟩,⟨rfl,h1.1,h1.2,rfl⟩⟩,⟨[C Z x.fZ],[X x.fA,J A0 x.fP.length c0,C Z x.fT,X x.fU],[],([]++(S0++([]++[]))),rfl,rfl,⟨rfl,h2.1,h2.2,rfl⟩,⟨[X x.fA],[J A0 x.fP.length c0,C Z x.fT,X x.fU],[],(S0++([]++[])),rfl,rfl,⟨rfl,rfl⟩,⟨[J A0 x.fP.length c0],[C Z x.fT,X x.fU],S0,([]++[]),rfl,rfl,h3,⟨[C Z x.fT],[X x.fU],[],[],rfl,rfl,⟨rfl,h4.1,h4.2,rfl⟩,⟨rfl,rfl⟩⟩⟩⟩⟩⟩
 simpa using h
structure gC where
 fN:Int
 fE:fX
 deriving DecidableEq
def vW:Ty gC:=(zv.prod qS).via fun x=>(x.fN,x.fE)
theorem Tw {x:gC} (h:vW.R w B cs x):∃ A0 c0,cs = [C Z x.fN,C Z x.fE.Op.Code,C Z x.fE.Op.iz,C Z x.fE.fZ,X x.fE.fA,J A0 x.fE.fP.length c0,C Z x.fE.fT,X x.fE.fU]/\fQ x.fN/\fQ x.fE.Op.Code/\fQ x.fE.Op.iz/\fQ x.fE.fZ/\(zv.sl 3).R w B [J A0 x.fE.fP.length c0] x.fE.fP/\fQ x.fE.fT:=by
 obtain⟨_,_,rfl,⟨rfl,a9,aa⟩,⟨_,_,rfl,⟨_,_,rfl,⟨rfl,a1,a2⟩,⟨rfl,a3,a4⟩⟩,⟨_,_,rfl,⟨rfl,a7,a8⟩,⟨_,_,rfl,rfl,⟨_,_,rfl,a0,⟨_,_,rfl,⟨rfl,a5,a6⟩,rfl⟩⟩⟩⟩⟩⟩:=h;obtain⟨A0,c0,rfl,_⟩:=id a0;exact⟨A0,c0,rfl,⟨a9,aa⟩,⟨a1,a2⟩,⟨a3,a4⟩,⟨a7,a8⟩,a0,⟨a5,a6⟩⟩
theorem PM {x:gC} (A0:N VQ)(c0:Nat)(h0:fQ x.fN)(h1:fQ x.fE.Op.Code)(h2:fQ x.fE.Op.iz)(h3:fQ x.fE.fZ)(h4:(zv.sl 3).R w B [J A0 x.fE.fP.length c0] x.fE.fP)(h5:fQ x.fE.fT):vW.R w B [C Z x.fN,C Z x.fE.Op.Code,C Z x.fE.Op.iz,C Z x.fE.fZ,X x.fE.fA,J A0 x.fE.fP.length c0,C Z x.fE.fT,X x.fE.fU] x:=by
 exact⟨[C Z x.fN],[C Z x.fE.Op.Code,C Z x.fE.Op.iz,C Z x.fE.fZ,X x.fE.fA,J A0 x.fE.fP.length c0,C Z x.fE.fT,X x.fE.fU],rfl,⟨rfl,h0.1,h0.2⟩,⟨[C Z x.fE.Op.Code,C Z x.fE.Op.iz],[C Z x.fE.fZ,X x.fE.fA,J A0 x.fE.fP.length c0,C Z x.fE.fT,X x.fE.fU],rfl,⟨[C Z x.fE.Op.Code],[C Z x.fE.Op.iz],rfl,⟨rfl,h1.1,h1.2⟩,⟨rfl,h2.1,h2.2⟩⟩,⟨[C Z x.fE.fZ],[X x.fE.fA,J A0 x.fE.fP.length c0,C Z x.fE.fT,X x.fE.fU],rfl,⟨rfl,h3.1,h3.2⟩,⟨[X x.fE.fA],[J A0 x.fE.fP.length c0,C Z x.fE.fT,X x.fE.fU],rfl,rfl,⟨[J A0 x.fE.fP.length c0],[C Z x.fE.fT,X x.fE.fU],rfl,h4,⟨[C Z x.fE.fT],[X x.fE.fU],rfl,⟨rfl,h5.1,h5.2⟩,rfl⟩⟩⟩⟩⟩⟩
theorem vZ {xs:D iq} (h:(jY.sl e).R w B [J A n c] xs){k:Nat}(hk:k<xs.length) :
  ∃ g off x ,A=F ⟨g,off,I⟩/\g<B/\xs[k]?=F x/\Vg w ⟨g,off+k*3,I⟩=F (C Z x.fC)/\Vg w ⟨g,off+k*3+1,I⟩=F (C Z x.iY)/\Vg w ⟨g,off+k*3+2,I⟩=F (Q x.fJ)/\fQ x.fC/\fQ x.iY/\x.fJ.size<=9223372036854775807:=by
 obtain⟨g,off,x,ec,h1,hB,h2,h3,h4⟩:=pz h hk;obtain⟨rfl,hf⟩:=UJ h3;exact⟨g,off,x,h1,hB,h2,h4 0 _ rfl,h4 1 _ rfl,h4 2 _ rfl,hf⟩
theorem OF:(prog.info? 160).map (fun i=>(i.zero,i.size,i.bytes))=F (F (.agg #[C Z 0,C Z 0,Q ⟨#[]⟩]),3,32):=gU
theorem rW:lL jY:=AA _ (qH zI (qH zI ng))
theorem BY:iZ prog 97 160 jY 32:=by
 obtain⟨i0,hi,a0,a1,a2⟩:=Xt OF;exact⟨underlying97,⟨i0,_,hi,a0,a1,a2,rfl⟩,gv⟩
def iK:G:=⟨#[]⟩
def mR (t:iq):Bool:=
 if t.fC=0 then gE t.iY 0 999 && decide (t.fJ=iK)
 else if t.fC=1 then decide (t.iY=0) && mN t.fJ
 else if t.fC=7 then gE t.iY 0 4 && mN t.fJ
 else gE t.fC 2 6 && (decide (t.iY=0) && decide (t.fJ=iK))
def j9 (t:iq):Int:=if mR t=H then (if t.fC=7 then t.iY else if t.fC=0∨t.fC=1 then 0 else 2) else -1
theorem Dg {t:iq} (h:mR t=H):0<=j9 t/\j9 t<=4:=by
 unfold j9;rw[Vs h];split
 ·rename_i hk
  unfold mR at h;rw[Vo fh,Vo fh,Vs hk,Vt,zr] at h;exact h.1
 ·split <;> omega
def pW:D iq->Nat->Nat->Int
 | _,0,k=>k
 | [],_+1,_=>-1
 | t::r,n+1,k=>if mR t=H then pW r (n+(j9 t).toNat) (k+1) else -1
def ox (xs:D iq)(a:Int):Int:=if a<0 then -1 else pW (xs.drop a.toNat) 1 a.toNat
def rH (xs:D iq):Bool:=decide (0<xs.length) && (decide (xs.length<=20) && decide (ox xs 0=xs.length))
mutual
inductive Ex where
 | node:iq->ig->Ex
inductive ig where
 | nil:ig
 | cons:Ex->ig->ig
end
mutual
def Ex.flat:Ex->D iq
 | .node t ks=>t::ks.flat
def ig.flat:ig->D iq
 | .nil=>[]
 | .cons e r=>e.flat++r.flat
end
mutual
def Ex.size:Ex->Nat
 | .node _ ks=>ks.size+1
def ig.size:ig->Nat
 | .nil=>0
 | .cons e r=>e.size+r.size
end
def ig.len:ig->Nat
 | .nil=>0
 | .cons _ r=>r.len+1
mutual
def Ex.wf:Ex->Prop
 | .node t ks=>mR t=H/\j9 t=ks.len/\ks.wf
def ig.wf:ig->Prop
 | .nil=>True
 | .cons e r=>e.wf/\r.wf
end
mutual
theorem Ex.ie:∀ e:Ex,e.flat.length=e.size
 | .node t ks=>by simp only[Ex.flat,Ex.size,VC,ig.ie ks]
theorem ig.ie:∀ ks:ig,ks.flat.length=ks.size
 | .nil=>rfl
 | .cons e r=>by simp only[ig.flat,ig.size,Vk,Ex.ie e,ig.ie r]
end
theorem Ex.size_pos:∀ e:Ex,0<e.size
 | .node _ _=>by simp only[Ex.size];omega
theorem ig.lW:∀ ks:ig,ks.len<=ks.size
 | .nil=>Vz _
 | .cons e r=>by
  have h1:=ig.lW r;have h2:=e.size_pos;simp only[ig.len,ig.size];omega
mutual
theorem Ex.nN:∀(e:Ex),e.wf->∀(r:D iq)(n k:Nat),pW (e.flat++r) (n+1) k=pW r n (k+e.size)
 | .node t ks,h,r,n,k=>by
  obtain⟨h1,h2,h3⟩:=h;simp only[Ex.flat,Xl,Ex.size,pW];rw[Vs h1,h2,Vy,ig.nN ks h3];congr 1;omega
theorem ig.nN:∀(ks:ig),ks.wf->∀(r:D iq)(n k:Nat),pW (ks.flat++r) (n+ks.len) k=pW r n (k+ks.size)
 | .nil,_,r,n,k=>rfl
 | .cons e q,h,r,n,k=>by
  simp only[ig.flat,ig.len,ig.size,VM];rw[<-Yq,Ex.nN e h.1,ig.nN q h.2];congr 1;omega
end
def ig.split:Nat->ig->ig × ig
 | 0,ks=>(.nil,ks)
 | _+1,.nil=>(.nil,.nil)
 | n+1,.cons e r=>(.cons e (ig.split n r).1,(ig.split n r).2)
theorem ig.pR:∀(n:Nat)(ks:ig),n<=ks.len->ks.wf->(ig.split n ks).1.len=n/\(ig.split n ks).1.wf/\(ig.split n ks).2.wf/\(ig.split n ks).2.len=ks.len-n/\(ig.split n ks).1.flat++(ig.split n ks).2.flat=ks.flat/\(ig.split n ks).1.size+(ig.split n ks).2.size=ks.size
 | 0,ks,_,h=>⟨rfl,trivial,h,rfl,rfl,by simp[ig.split,ig.size]⟩
 | n+1,.nil,hn,_=>absurd hn (by simp[ig.len])
 | n+1,.cons e r,hn,h=>by
  obtain⟨h1,h2,h3,h4,h5,h6⟩:=ig.pR n r (by simp only[ig.len] at hn;omega) h.2;simp only[ig.split,ig.len,ig.flat,ig.size,VM,h5];exact⟨fh,⟨h.1,h2⟩,h3,fh,trivial,fh⟩
theorem IP:∀(xs:D iq)(n k:Nat)(m:Int),pW xs n k=m->0<=m->∃(ks:ig)(r:D iq),ks.len=n/\ks.wf/\xs=ks.flat++r/\m=k+ks.size
 | xs,0,k,m,h,_=>⟨.nil,xs,rfl,trivial,rfl,by cases xs <;> (simp only[pW] at h;simp only[ig.size];omega)⟩
 | [],n+1,k,m,h,hm=>by simp only[pW] at h;omega
 | t::r,n+1,k,m,h,hm=>by
  simp only[pW] at h;cases ht:mR t with
  | false=>rw[Vo (by simp[ht])] at h;omega
  | true=>
   rw[Vs ht] at h;have ha:=Dg ht;obtain⟨ks,r',h1,h2,h3,h4⟩:=IP r _ _ m h hm;obtain⟨g1,g2,g3,g4,g5,g6⟩:=ig.pR (j9 t).toNat ks fh h2;refine⟨.cons (.node t (ig.split (j9 t).toNat ks).1) (ig.split (j9 t).toNat ks).2,r',?_,⟨⟨ht,by rw[g1];omega,g2⟩,g3⟩,?_,?_⟩
   ·simp only[ig.len,g4];omega
   ·rw[h3];simp only[ig.flat,Ex.flat,Xl,<-g5,VM]
   ·simp only[ig.size,Ex.size];omega
theorem N5 {xs:D iq} {a:Nat} {m:Int} (h:ox xs a=m)(hm:0<=m):∃(e:Ex)(r:D iq),e.wf/\xs.drop a=e.flat++r/\m=a+e.size:=by
 unfold ox at h;rw[Vo fh,Vy] at h;obtain⟨ks,r,h1,h2,h3,h4⟩:=IP _ _ _ m h hm
 match ks,h1,h2,h3,h4 with
 | .cons e .nil,_,h2,h3,h4=>exact⟨e,r,h2.1,by simpa[ig.flat] using h3,by simpa[ig.size] using h4⟩
theorem ED {xs:D iq} {a:Nat} {e:Ex} {r:D iq} (he:e.wf)(h:xs.drop a=e.flat++r):ox xs a=((a+e.size:Nat):Int):=by
 unfold ox;rw[Vo fh,Vy,h,Ex.nN e he r 0 a];cases r <;> rfl
theorem G6 {xs:D iq} (h:rH xs=H):∃ e:Ex,e.wf/\xs=e.flat/\xs.length<=20:=by
 unfold rH at h;simp only[Vt,VD] at h;obtain⟨h1,h2,h3⟩:=h;obtain⟨e,r,g1,g2,g3⟩:=N5 (a:=0) (m:=xs.length) h3 fh;rw[WQ] at g2;refine⟨e,g1,?_,h2⟩;have hl:=WY List.length g2;rw[Vk,e.ie] at hl;have hr:r.length=0:=fh;rw[XT.1 hr,Wu] at g2;exact g2
theorem Ex.ok {e:Ex} (he:e.wf)(h:e.size<=20):rH e.flat=H:=by
 unfold rH;simp only[Vt,VD,e.ie];refine⟨e.size_pos,h,?_⟩;have:=ED (xs:=e.flat) (a:=0) (e:=e) (r:=[]) he gm;rw[show ((0:Nat):Int)=0 from rfl] at this;rw[this];simp
def ig.iL:ig->Nat->D Int
 | .nil,_=>[]
 | .cons e r,k=>(k:Int)::r.iL (k+e.size)
theorem ig.lX:∀(ks:ig)(k:Nat),(ks.iL k).length=ks.len
 | .nil,_=>rfl
 | .cons _ r,k=>by simp[ig.iL,ig.len,ig.lX r]
theorem Aw {α:Type} {xs:D α} {x:α} {r:D α} (h:xs.drop k=x::r):xs[k]?=F x/\xs.drop (k+1)=r:=by
 constructor
 ·have:=WY (fun l=>l[0]?) h
  simpa[Xi] using this
 ·rw[<-Xx,h];rfl
end Go.Proofs.YthgbglbaemelhaaGreat
