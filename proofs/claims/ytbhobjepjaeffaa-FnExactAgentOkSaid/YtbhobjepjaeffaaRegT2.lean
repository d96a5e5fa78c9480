/-
  REGT2: more than one operation may come up; two lists and an object that a region makes in whatever order.
-/
import Derived.Test.YtbhobjepjaeffaaRegT
import Derived.Test.YtbhobjepjaeffaaOwn
import Derived.Test.YtbhobjepjaeffaaBoxN
set_option linter.unusedVariables false
set_option linter.unusedSimpArgs false
namespace Go.Proofs.Ytbhobjepjaeffaa
open Go.RowKit
section
variable {P : Program} {ops : Array Oper} {Q : Exit → Act → World → Prop} {md : Region.Mode} {S : World → Prop} {m : Nat}
theorem AnyT.step1 {i : Nat} {o : Oper} {f : Nat} {listed : Array Bool} {a : Act} {w : World} (ho : ops[i]? = some o)
    (h : ∀ K : Act → World → Prop, Hid (∀ a w, S w → AnyT P md ops Q S m f (listed.setIfInBounds i true) a w → K a w) → if Region.wanted o (yielded ops a.tmps) = true then Oper.wp P o a w K Q else K (a.put o.dst undef) w) :
    wpOp P ops Q i (fun a' w' => (i ≠ m → S w') ∧ AnyT P md ops Q S m f (listed.setIfInBounds i true) a' w') a w :=
  wpOp_step ho (fun K hK => h K (Lib.hid fun a w hS hT => hK a w ⟨fun _ => hS, hT⟩))
theorem AnyT.some1 {i : Nat} {o : Oper} {f : Nat} {listed : Array Bool} {a : Act} {w : World} (hr : Region.ready md ops listed = [i]) (ho : ops[i]? = some o)
    (h : ∀ K : Act → World → Prop, Hid (∀ a w, S w → AnyT P md ops Q S m f (listed.setIfInBounds i true) a w → K a w) → if Region.wanted o (yielded ops a.tmps) = true then Oper.wp P o a w K Q else K (a.put o.dst undef) w) : AnyT P md ops Q S m (f + 1) listed a w :=
  ⟨fun h0 => absurd (hr.symm.trans h0) (by simp), fun j hj => by
    obtain rfl : j = i := by simpa [hr] using hj
    exact AnyT.step1 ho h⟩
theorem AnyT.some2 {i j : Nat} {o o2 : Oper} {f : Nat} {listed : Array Bool} {a : Act} {w : World} (hr : Region.ready md ops listed = [i, j]) (ho : ops[i]? = some o) (ho2 : ops[j]? = some o2)
    (h : ∀ K : Act → World → Prop, Hid (∀ a w, S w → AnyT P md ops Q S m f (listed.setIfInBounds i true) a w → K a w) → if Region.wanted o (yielded ops a.tmps) = true then Oper.wp P o a w K Q else K (a.put o.dst undef) w)
    (h2 : ∀ K : Act → World → Prop, Hid (∀ a w, S w → AnyT P md ops Q S m f (listed.setIfInBounds j true) a w → K a w) → if Region.wanted o2 (yielded ops a.tmps) = true then Oper.wp P o2 a w K Q else K (a.put o2.dst undef) w) : AnyT P md ops Q S m (f + 1) listed a w :=
  ⟨fun h0 => absurd (hr.symm.trans h0) (by simp), fun k hk => by
    have hk2 : k = i ∨ k = j := by simpa [hr] using hk
    rcases hk2 with rfl | rfl
    · exact AnyT.step1 ho h
    · exact AnyT.step1 ho2 h2⟩
theorem AnyT.some3 {i j l : Nat} {o o2 o3 : Oper} {f : Nat} {listed : Array Bool} {a : Act} {w : World} (hr : Region.ready md ops listed = [i, j, l]) (ho : ops[i]? = some o) (ho2 : ops[j]? = some o2) (ho3 : ops[l]? = some o3)
    (h : ∀ K : Act → World → Prop, Hid (∀ a w, S w → AnyT P md ops Q S m f (listed.setIfInBounds i true) a w → K a w) → if Region.wanted o (yielded ops a.tmps) = true then Oper.wp P o a w K Q else K (a.put o.dst undef) w)
    (h2 : ∀ K : Act → World → Prop, Hid (∀ a w, S w → AnyT P md ops Q S m f (listed.setIfInBounds j true) a w → K a w) → if Region.wanted o2 (yielded ops a.tmps) = true then Oper.wp P o2 a w K Q else K (a.put o2.dst undef) w)
    (h3 : ∀ K : Act → World → Prop, Hid (∀ a w, S w → AnyT P md ops Q S m f (listed.setIfInBounds l true) a w → K a w) → if Region.wanted o3 (yielded ops a.tmps) = true then Oper.wp P o3 a w K Q else K (a.put o3.dst undef) w) : AnyT P md ops Q S m (f + 1) listed a w :=
  ⟨fun h0 => absurd (hr.symm.trans h0) (by simp), fun k hk => by
    have hk2 : k = i ∨ k = j ∨ k = l := by simpa [hr] using hk
    rcases hk2 with rfl | rfl | rfl
    · exact AnyT.step1 ho h
    · exact AnyT.step1 ho2 h2
    · exact AnyT.step1 ho3 h3⟩
end
/-- two lists of the call's own and an object, in a world that has grown from Y -/
structure J3 {α β : Type} (T : Ty α) (U : Ty β) (e f : TypeId) (Y W : World) (va vb : Value) (xa : List α) (xb : List β) (Sa Sb : List Nat) (go : Nat) (o : Obj) : Prop where
  ha : Has (T.sl e) W [va] xa Sa
  hb : Has (U.sl f) W [vb] xb Sb
  hab : ∀ b ∈ Sa, b ∉ Sb
  la : ∀ b ∈ Sa, Y.heap.size ≤ b
  lb : ∀ b ∈ Sb, Y.heap.size ≤ b
  hg : Gro Y W
  ho : W.heap[go]? = some o
  hoa : go ∉ Sa
  hob : go ∉ Sb
section
variable {α β : Type} {T : Ty α} {U : Ty β} {e f : TypeId} {Y W W' : World} {va vb : Value} {xa : List α} {xb : List β} {Sa Sb : List Nat} {go : Nat} {o : Obj}
theorem J3.gro (h : J3 T U e f Y W va vb xa xb Sa Sb go o) (hg : Gro W W') : J3 T U e f Y W' va vb xa xb Sa Sb go o :=
  ⟨h.ha.gro hg, h.hb.gro hg, h.hab, h.la, h.lb, h.hg.trans hg, grow_blk h.ho hg, h.hoa, h.hob⟩
theorem J3.start (ho : Y.heap[go]? = some o) : J3 T U e f Y Y (.slice none 0 0) (.slice none 0 0) [] [] [] [] go o :=
  ⟨Has.nil _ _ _, Has.nil _ _ _, by simp, by simp, by simp, Gro.refl _, ho, by simp, by simp⟩
theorem J3.allocA (h : J3 T U e f Y W va vb xa xb Sa Sb go o) : J3 T U e f Y (W.alloc (.cells #[] e)) (.slice (some ⟨W.heap.size, 0, none⟩) 0 0) vb [] xb [W.heap.size] Sb go o := by
  have hl := (Array.getElem?_eq_some_iff.1 h.ho).1
  refine ⟨Has.emp T (heap_alloc_new _ _), h.hb.gro ((Gro.refl _).alloc _), fun b hb hm => ?_, fun b hb => ?_, h.lb, h.hg.alloc _, grow_blk h.ho ((Gro.refl _).alloc _), ?_, h.hob⟩
  · have := h.hb.lt b hm; simp at hb; omega
  · have := h.hg.size; simp at hb; omega
  · simp; omega
theorem J3.allocB (h : J3 T U e f Y W va vb xa xb Sa Sb go o) : J3 T U e f Y (W.alloc (.cells #[] f)) va (.slice (some ⟨W.heap.size, 0, none⟩) 0 0) xa [] Sa [W.heap.size] go o := by
  have hl := (Array.getElem?_eq_some_iff.1 h.ho).1
  refine ⟨h.ha.gro ((Gro.refl _).alloc _), Has.emp U (heap_alloc_new _ _), fun b hb hm => ?_, h.la, fun b hb => ?_, h.hg.alloc _, grow_blk h.ho ((Gro.refl _).alloc _), h.hoa, ?_⟩
  · have := h.ha.lt b hb; simp at hm; omega
  · have := h.hg.size; simp at hb; omega
  · simp; omega
theorem J3.allocO {cs : Array Value} {t : TypeId} (h : J3 T U e f Y W va vb xa xb Sa Sb go o) : J3 T U e f Y (W.alloc (.cells cs t)) va vb xa xb Sa Sb W.heap.size (.cells cs t (0, 0)) := by
  refine ⟨h.ha.gro ((Gro.refl _).alloc _), h.hb.gro ((Gro.refl _).alloc _), h.hab, h.la, h.lb, h.hg.alloc _, heap_alloc_new _ _, fun hm => ?_, fun hm => ?_⟩
  · have := h.ha.lt _ hm; omega
  · have := h.hb.lt _ hm; omega
theorem J3.appA {va' : Value} {xa' : List α} {Sa' : List Nat} (h : J3 T U e f Y W va vb xa xb Sa Sb go o) (hon : OnlyS Sa W W') (hH : Has (T.sl e) W' [va'] xa' Sa') (hS : ∀ b ∈ Sa', b ∈ Sa ∨ W.heap.size ≤ b) : J3 T U e f Y W' va' vb xa' xb Sa' Sb go o := by
  have hl := (Array.getElem?_eq_some_iff.1 h.ho).1
  refine ⟨hH, h.hb.keep hon (fun b hb hm => h.hab b hm hb), fun b hb hm => ?_, fun b hb => ?_, h.lb, hon.gro h.hg h.la, (hon.block go hl h.hoa).trans h.ho, fun hm => ?_, h.hob⟩
  · rcases hS b hb with h1 | h1
    · exact h.hab b h1 hm
    · have := h.hb.lt b hm; omega
  · rcases hS b hb with h1 | h1
    · exact h.la b h1
    · have := h.hg.size; omega
  · rcases hS go hm with h1 | h1
    · exact h.hoa h1
    · omega
theorem J3.appB {vb' : Value} {xb' : List β} {Sb' : List Nat} (h : J3 T U e f Y W va vb xa xb Sa Sb go o) (hon : OnlyS Sb W W') (hH : Has (U.sl f) W' [vb'] xb' Sb') (hS : ∀ b ∈ Sb', b ∈ Sb ∨ W.heap.size ≤ b) : J3 T U e f Y W' va vb' xa xb' Sa Sb' go o := by
  have hl := (Array.getElem?_eq_some_iff.1 h.ho).1
  refine ⟨h.ha.keep hon (fun b hb hm => h.hab b hb hm), hH, fun b hb hm => ?_, h.la, fun b hb => ?_, hon.gro h.hg h.lb, (hon.block go hl h.hob).trans h.ho, h.hoa, fun hm => ?_⟩
  · rcases hS b hm with h1 | h1
    · exact h.hab b hb h1
    · have := h.ha.lt b hb; omega
  · rcases hS b hb with h1 | h1
    · exact h.lb b h1
    · have := h.hg.size; omega
  · rcases hS go hm with h1 | h1
    · exact h.hob h1
    · omega
theorem J3.cell {p : Addr} {v : Value} (h : J3 T U e f Y W va vb xa xb Sa Sb go o) (hc : Y.cell? p = some v) : W.cell? p = some v := by
  obtain ⟨os, d, hw⟩ := h.hg
  rw [hw]
  exact gro_keeps hc os d
theorem J3.store {o' : Obj} (h : J3 T U e f Y W va vb xa xb Sa Sb go o) (hon : OnlyS [go] W W') (ho' : W'.heap[go]? = some o') (hgo : Y.heap.size ≤ go) : J3 T U e f Y W' va vb xa xb Sa Sb go o' :=
  ⟨h.ha.keep hon (fun b hb hm => h.hoa (by simp at hm; exact hm ▸ hb)), h.hb.keep hon (fun b hb hm => h.hob (by simp at hm; exact hm ▸ hb)), h.hab, h.la, h.lb, hon.gro h.hg (fun b hb => by simp at hb; omega), ho', h.hoa, h.hob⟩
end
end Go.Proofs.Ytbhobjepjaeffaa
