/-
  STACKS, PART 2: FindStack, StackAt, StackDepth of the program and of the reference.
-/
import Derived.Test.YtcomafmiclkmhaaGreatDoorStacks
set_option linter.unusedVariables false
set_option linter.unusedSimpArgs false
namespace Go.Proofs.YtcomafmiclkmhaaGreatDoor
open Go.RowKit
theorem fresh_one {α : Type} {T : Ty α} {e : TypeId} (hf : Flat T) {W0 W W1 : World} {B : Nat} {ec : List Value} {x : α} (hR : T.R W1 B ec x) (hg : Gro W0 W) {g : Nat} (hgW : g = W.heap.size) : Fresh (T.sl e) W0 (W.alloc (.cells ec.toArray e)) [.slice (some ⟨g, 0, none⟩) 1 1] [x] := by
  subst hgW
  refine ⟨[W.heap.size], own_made (xs := [x]) (heap_alloc_new W _) (show Rows T _ ec.toArray.toList [x] [] from ⟨ec, [], [], [], by simp, rfl, hf hR _, rfl, rfl⟩) (by simp), by simp, fun b hb => ?_⟩
  simp at hb
  subst hb
  exact hg.size
def findL (ns : List DNode) : Int → List DFrame → Int
  | a, [] => a
  | a, f :: fs => if childV ns a f < 0 then -1 else findL ns (childV ns a f) fs
def findStack (t : DStacks) (l : List DFrame) : Int := if stacksOk t then findL t.Nodes (-1) l else -1
theorem findL_bd (ns : List DNode) (a : Int) (l : List DFrame) (h1 : -1 ≤ a) (h2 : a < ns.length) : -1 ≤ findL ns a l ∧ findL ns a l < ns.length := by
  induction l generalizing a with
  | nil => exact ⟨h1, h2⟩
  | cons f fs ih =>
    simp only [findL]
    split
    · omega
    · have := child_lt (ns := ns) (p := a) (f := f)
      exact ih _ this.1 this.2
theorem drop_at {α : Type} {xs : List α} {j : Nat} {x : α} (h : xs[j]? = some x) : xs.drop j = x :: xs.drop (j + 1) := by
  have hj := (List.getElem?_eq_some_iff.1 h).1
  rw [List.drop_eq_getElem_cons hj, (List.getElem?_eq_some_iff.1 h).2]
def upL (ns : List DNode) : Nat → Int → List DFrame → List DFrame
  | 0, _, acc => acc
  | n + 1, k, acc => if k < 0 then acc else match ns[k.toNat]? with
    | some x => upL ns n x.Parent (x.Frame :: acc)
    | none => acc
def stackAt (t : DStacks) (k : Int) : List DFrame := if stacksOk t && btw k 0 ((t.Nodes.length : Int) - 1) then upL t.Nodes t.Nodes.length k [] else []
theorem stacksOk_node {t : DStacks} (h : stacksOk t = true) {j : Nat} {x : DNode} (hx : t.Nodes[j]? = some x) : -1 ≤ x.Parent ∧ x.Parent ≤ (j : Int) - 1 ∧ frameOk x.Frame = true := by
  have hj := (List.getElem?_eq_some_iff.1 hx).1
  have := List.all_eq_true.1 h j (List.mem_range.2 hj)
  unfold nodeOk at this
  rw [hx] at this
  simp only [Bool.and_eq_true, btw_iff] at this
  exact ⟨this.1.1, this.1.2, this.2.1⟩
theorem upL_len (ns : List DNode) (n : Nat) (k : Int) (acc : List DFrame) : (upL ns n k acc).length ≤ n + acc.length := by
  induction n generalizing k acc with
  | zero => simp [upL]
  | succ n ih =>
    simp only [upL]
    split
    · omega
    · split
      · rename_i x _
        have := ih x.Parent (x.Frame :: acc)
        simp only [List.length_cons] at this
        omega
      · omega
theorem stackAt_len (t : DStacks) (k : Int) : (stackAt t k).length ≤ t.Nodes.length := by
  unfold stackAt
  split
  · exact upL_len _ _ _ _
  · simp
set_option maxRecDepth 100000 in
set_option maxHeartbeats 1000000 in
theorem stackAt_i {t : DStacks} {k : Int} {w : World} {A : Option Addr} {c : Nat} (hx : (tNode.sl 48).R w w.heap.size [.slice A t.Nodes.length c] t.Nodes) (hn : t.Nodes.length ≤ 1099511627776) :
    Calls Tryz.prog 40 #[.agg #[.slice A t.Nodes.length c], .int .i64 k] w (RetSl tFrame 46 (stackAt t k) w) := by
  obtain ⟨_, _, hv, h2, h3⟩ := sl_at hx
  injection hv with hA _ hc
  subst hA hc
  cases hok : stacksOk t
  · have HF := Lib.hid (show stackAt t k = [] from by simp [stackAt, hok])
    have HO := Lib.hid hok
    clear hok
    go_enter Tryz.func40, Tryz.ntmps40
    go_wp2_with (go_at_call 32; (with_reducible refine (stacksOk_i (t := t) (Ty.up _ hx (by repeat (first | with_reducible exact Gro.refl _ | with_reducible exact Gro.refl_drew _ _ _ | with_reducible exact Gro.refl_drewN _ _ _ _ | assumption | with_reducible apply Gro.more | with_reducible apply Gro.alloc | with_reducible apply Gro.drew | with_reducible apply Gro.drewN)))).mono ?_); rw [HO.out]; rintro e w1 ⟨rfl, os1, d1, rfl⟩)
    go_ret
    rw [HF.out]
    exact ⟨none, 0, rfl, fresh_nil _ _, (by repeat (first | with_reducible exact Gro.refl _ | with_reducible exact Gro.refl_drew _ _ _ | with_reducible exact Gro.refl_drewN _ _ _ _ | assumption | with_reducible apply Gro.more | with_reducible apply Gro.alloc | with_reducible apply Gro.drew | with_reducible apply Gro.drewN))⟩
  · cases hb : btw k 0 ((t.Nodes.length : Int) - 1)
    · have HF := Lib.hid (show stackAt t k = [] from by simp [stackAt, hb])
      have HO := Lib.hid hok
      have HB := Lib.hid hb
      clear hok hb
      go_enter Tryz.func40, Tryz.ntmps40
      go_wp2_with (first | (go_at_call 32; (with_reducible refine (stacksOk_i (t := t) (Ty.up _ hx (by repeat (first | with_reducible exact Gro.refl _ | with_reducible exact Gro.refl_drew _ _ _ | with_reducible exact Gro.refl_drewN _ _ _ _ | assumption | with_reducible apply Gro.more | with_reducible apply Gro.alloc | with_reducible apply Gro.drew | with_reducible apply Gro.drewN)))).mono ?_); rw [HO.out]; rintro e w1 ⟨rfl, os1, d1, rfl⟩) | (go_at_call 33; (with_reducible refine (in_i _ _ _ _).mono ?_); rw [HB.out]; rintro e w1 ⟨rfl, rfl⟩))
      go_ret
      rw [HF.out]
      exact ⟨none, 0, rfl, fresh_nil _ _, (by repeat (first | with_reducible exact Gro.refl _ | with_reducible exact Gro.refl_drew _ _ _ | with_reducible exact Gro.refl_drewN _ _ _ _ | assumption | with_reducible apply Gro.more | with_reducible apply Gro.alloc | with_reducible apply Gro.drew | with_reducible apply Gro.drewN))⟩
    · have HF := Lib.hid (show stackAt t k = upL t.Nodes t.Nodes.length k [] from by simp [stackAt, hok, hb])
      obtain ⟨b1, b2⟩ := btw_iff.1 hb
      have HO := Lib.hid hok
      have HB := Lib.hid hb
      clear hok hb
      go_enter Tryz.func40, Tryz.ntmps40
      go_wp2_with (first | (go_at_call 32; (with_reducible refine (stacksOk_i (t := t) (Ty.up _ hx (by repeat (first | with_reducible exact Gro.refl _ | with_reducible exact Gro.refl_drew _ _ _ | with_reducible exact Gro.refl_drewN _ _ _ _ | assumption | with_reducible apply Gro.more | with_reducible apply Gro.alloc | with_reducible apply Gro.drew | with_reducible apply Gro.drewN)))).mono ?_); rw [HO.out]; rintro e w1 ⟨rfl, os1, d1, rfl⟩) | (go_at_call 33; (with_reducible refine (in_i _ _ _ _).mono ?_); rw [HB.out]; rintro e w1 ⟨rfl, rfl⟩))
      go_loopw [1, 5] (fun a v wr => ∃ (q : Int) (n : Nat) (acc : List DFrame) (B : Option Addr) (cc : Nat), a = .int .i64 q ∧ v = .slice B acc.length cc ∧ -1 ≤ q ∧ q < t.Nodes.length ∧ q < n ∧ acc.length + n ≤ t.Nodes.length ∧ Hid (upL t.Nodes n q acc = upL t.Nodes t.Nodes.length k []) ∧ Hid (Gro (w.alloc (.cells #[.slice A t.Nodes.length c] 26)) wr) ∧ Hid (Fresh (tFrame.sl 46) (w.alloc (.cells #[.slice A t.Nodes.length c] 26)) wr [.slice B acc.length cc] acc)) (fun a _ _ => (intOf a + 1).toNat)
      case atStart => exact ⟨k, t.Nodes.length, [], _, 0, rfl, rfl, by omega, by omega, by omega, by simp, Lib.hid rfl, Lib.hid (by repeat (first | with_reducible exact Gro.refl _ | with_reducible exact Gro.refl_drew _ _ _ | with_reducible exact Gro.refl_drewN _ _ _ _ | assumption | with_reducible apply Gro.more | with_reducible apply Gro.alloc | with_reducible apply Gro.drew | with_reducible apply Gro.drewN)), Lib.hid (fresh_empty (by repeat (first | with_reducible exact Gro.refl _ | with_reducible exact Gro.refl_drew _ _ _ | with_reducible exact Gro.refl_drewN _ _ _ _ | assumption | with_reducible apply Gro.more | with_reducible apply Gro.alloc | with_reducible apply Gro.drew | with_reducible apply Gro.drewN)) (by simp))⟩
      case round =>
        obtain ⟨q, n, acc, B, cc, rfl, rfl, q1, q2, q3, q4, HT, hG, hF⟩ := hrel
        obtain ⟨os, d, rfl⟩ := hG.out
        clear hG
        by_cases hlt : 0 ≤ q
        · obtain ⟨j, rfl⟩ := Int.eq_ofNat_of_zero_le hlt
          obtain ⟨n, rfl⟩ : ∃ m, n = m + 1 := ⟨n - 1, by omega⟩
          obtain ⟨g, off, x, rfl, hgb, hxk, hx0, hx1, hx2, bx0, bx1, bx2⟩ := atNode hx (k := j) (by omega)
          have hpar := stacksOk_node HO.out hxk
          have p1 := hpar.1
          have p2 := hpar.2.1
          have HT2 := Lib.hid (show upL t.Nodes (n + 1) j acc = upL t.Nodes n x.Parent (x.Frame :: acc) from by simp only [upL]; rw [if_neg (by omega), Int.toNat_natCast, hxk])
          have HXL := Lib.hid hx
          have HX := Lib.hid hxk
          clear hxk hx hpar
          go_wp2_with (at_builtin; refine wpList_append_flat (W0 := w.alloc (.cells #[.slice (some ⟨g, off, none⟩) t.Nodes.length c] 26)) (L := acc.length + 1) rfl (.tmp 33) (.tmp 34) elFrame flatFrame (fresh_one (W1 := w) (B := 0) (x := x.Frame) flatFrame (tFrame_mkR bx1 bx2) (by repeat (first | with_reducible exact Gro.refl _ | with_reducible exact Gro.refl_drew _ _ _ | with_reducible exact Gro.refl_drewN _ _ _ _ | assumption | with_reducible apply Gro.more | with_reducible apply Gro.alloc | with_reducible apply Gro.drew | with_reducible apply Gro.drewN)) (by simp)) (by repeat (first | with_reducible exact Gro.refl _ | with_reducible exact Gro.refl_drew _ _ _ | with_reducible exact Gro.refl_drewN _ _ _ _ | assumption | with_reducible apply Gro.more | with_reducible apply Gro.alloc | with_reducible apply Gro.drew | with_reducible apply Gro.drewN)) (Ty.up _ hF.out.read (by repeat (first | with_reducible exact Gro.refl _ | with_reducible exact Gro.refl_drew _ _ _ | with_reducible exact Gro.refl_drewN _ _ _ _ | assumption | with_reducible apply Gro.more | with_reducible apply Gro.alloc | with_reducible apply Gro.drew | with_reducible apply Gro.drewN))) rfl rfl rfl (by omega) (by omega) (by omega) ?_; intro B2 d2 os2 dd2 hF2)
          go_roundw
          case rel => exact ⟨x.Parent, n, x.Frame :: acc, B2, d2, rfl, rfl, by omega, by omega, by omega, by simp only [List.length_cons]; omega, Lib.hid (by rw [← HT2.out, HT.out]), Lib.hid (by repeat (first | with_reducible exact Gro.refl _ | with_reducible exact Gro.refl_drew _ _ _ | with_reducible exact Gro.refl_drewN _ _ _ _ | assumption | with_reducible apply Gro.more | with_reducible apply Gro.alloc | with_reducible apply Gro.drew | with_reducible apply Gro.drewN)), Lib.hid hF2⟩
          case measure => simp [intOf]; omega
        · have hje : q = -1 := by omega
          subst hje
          have HQ := Lib.hid (show stackAt t k = acc from by rw [HF.out, ← HT.out]; cases n <;> simp [upL])
          go_wp2
          go_ret
          rw [HQ.out]
          exact ⟨B, cc, rfl, hF.out.since (by simp), (by repeat (first | with_reducible exact Gro.refl _ | with_reducible exact Gro.refl_drew _ _ _ | with_reducible exact Gro.refl_drewN _ _ _ _ | assumption | with_reducible apply Gro.more | with_reducible apply Gro.alloc | with_reducible apply Gro.drew | with_reducible apply Gro.drewN))⟩
set_option maxRecDepth 100000 in
set_option maxHeartbeats 1000000 in
theorem stackAt_s {t : DStacks} {k : Int} {w : World} {A : Option Addr} {c : Nat} (hx : (tNode.sl 48).R w w.heap.size [.slice A t.Nodes.length c] t.Nodes) (hn : t.Nodes.length ≤ 1099511627776) (hk0 : I64 k) :
    Calls Tryz.prog 49 #[.agg #[.slice A t.Nodes.length c], .int .i64 k] w (RetSl tFrame 46 (stackAt t k) w) := by
  obtain ⟨_, _, hv, h2, h3⟩ := sl_at hx
  injection hv with hA _ hc
  subst hA hc
  obtain ⟨hk1, hk2⟩ := hk0
  cases hok : stacksOk t
  · have HF := Lib.hid (show stackAt t k = [] from by simp [stackAt, hok])
    have HO := Lib.hid hok
    clear hok
    go_enter Tryz.func49, Tryz.ntmps49
    go_wp2_with (go_at_call 46; (with_reducible refine (stacksOk_s (t := t) (Ty.up _ hx (by repeat (first | with_reducible exact Gro.refl _ | with_reducible exact Gro.refl_drew _ _ _ | with_reducible exact Gro.refl_drewN _ _ _ _ | assumption | with_reducible apply Gro.more | with_reducible apply Gro.alloc | with_reducible apply Gro.drew | with_reducible apply Gro.drewN)))).mono ?_); rw [HO.out]; rintro e w1 ⟨rfl, os1, d1, rfl⟩)
    go_ret
    rw [HF.out]
    exact ⟨_, 0, rfl, fresh_empty2 (W0 := w) (by repeat (first | with_reducible exact Gro.refl _ | with_reducible exact Gro.refl_drew _ _ _ | with_reducible exact Gro.refl_drewN _ _ _ _ | assumption | with_reducible apply Gro.more | with_reducible apply Gro.alloc | with_reducible apply Gro.drew | with_reducible apply Gro.drewN)) (by repeat (first | with_reducible exact Gro.refl _ | with_reducible exact Gro.refl_drew _ _ _ | with_reducible exact Gro.refl_drewN _ _ _ _ | assumption | with_reducible apply Gro.more | with_reducible apply Gro.alloc | with_reducible apply Gro.drew | with_reducible apply Gro.drewN)) (by simp), (by repeat (first | with_reducible exact Gro.refl _ | with_reducible exact Gro.refl_drew _ _ _ | with_reducible exact Gro.refl_drewN _ _ _ _ | assumption | with_reducible apply Gro.more | with_reducible apply Gro.alloc | with_reducible apply Gro.drew | with_reducible apply Gro.drewN))⟩
  · by_cases hb : k < t.Nodes.length
    · have HF := Lib.hid (show stackAt t k = upL t.Nodes t.Nodes.length k [] from by
        unfold stackAt
        rw [hok]
        cases hb2 : btw k 0 ((t.Nodes.length : Int) - 1)
        · have hneg : k < 0 := by
            simp only [btw, Bool.and_eq_false_iff, decide_eq_false_iff_not] at hb2
            omega
          cases hl : t.Nodes.length with
          | zero => simp [upL]
          | succ n => simp [upL, hneg]
        · simp)
      have HO := Lib.hid hok
      clear hok
      go_enter Tryz.func49, Tryz.ntmps49
      go_wp2_with (first | (go_at_call 46; (with_reducible refine (stacksOk_s (t := t) (Ty.up _ hx (by repeat (first | with_reducible exact Gro.refl _ | with_reducible exact Gro.refl_drew _ _ _ | with_reducible exact Gro.refl_drewN _ _ _ _ | assumption | with_reducible apply Gro.more | with_reducible apply Gro.alloc | with_reducible apply Gro.drew | with_reducible apply Gro.drewN)))).mono ?_); rw [HO.out]; rintro e w1 ⟨rfl, os1, d1, rfl⟩))
      go_loopw [1, 5] (fun a v wr => ∃ (q : Int) (n : Nat) (acc : List DFrame) (B : Option Addr) (cc : Nat), a = .int .i64 q ∧ v = .slice B acc.length cc ∧ (-1 ≤ q ∨ acc = []) ∧ q < t.Nodes.length ∧ q < n ∧ -9223372036854775808 ≤ q ∧ acc.length + n ≤ t.Nodes.length ∧ Hid (upL t.Nodes n q acc = upL t.Nodes t.Nodes.length k []) ∧ Hid (Gro (w.alloc (.cells #[.slice A t.Nodes.length c] 26)) wr) ∧ Hid (Fresh (tFrame.sl 46) (w.alloc (.cells #[.slice A t.Nodes.length c] 26)) wr [.slice B acc.length cc] acc)) (fun a _ _ => (intOf a + 1).toNat)
      case atStart => exact ⟨k, t.Nodes.length, [], _, 0, rfl, rfl, .inr rfl, by omega, by omega, by omega, by simp, Lib.hid rfl, Lib.hid (by repeat (first | with_reducible exact Gro.refl _ | with_reducible exact Gro.refl_drew _ _ _ | with_reducible exact Gro.refl_drewN _ _ _ _ | assumption | with_reducible apply Gro.more | with_reducible apply Gro.alloc | with_reducible apply Gro.drew | with_reducible apply Gro.drewN)), Lib.hid (fresh_empty2 (by repeat (first | with_reducible exact Gro.refl _ | with_reducible exact Gro.refl_drew _ _ _ | with_reducible exact Gro.refl_drewN _ _ _ _ | assumption | with_reducible apply Gro.more | with_reducible apply Gro.alloc | with_reducible apply Gro.drew | with_reducible apply Gro.drewN)) (by repeat (first | with_reducible exact Gro.refl _ | with_reducible exact Gro.refl_drew _ _ _ | with_reducible exact Gro.refl_drewN _ _ _ _ | assumption | with_reducible apply Gro.more | with_reducible apply Gro.alloc | with_reducible apply Gro.drew | with_reducible apply Gro.drewN)) (by simp))⟩
      case round =>
        obtain ⟨q, n, acc, B, cc, rfl, rfl, q1, q2, q3, q5, q4, HT, hG, hF⟩ := hrel
        obtain ⟨os, d, rfl⟩ := hG.out
        clear hG q1
        by_cases hlt : 0 ≤ q
        · obtain ⟨j, rfl⟩ := Int.eq_ofNat_of_zero_le hlt
          obtain ⟨n, rfl⟩ : ∃ m, n = m + 1 := ⟨n - 1, by omega⟩
          obtain ⟨g, off, x, rfl, hgb, hxk, hx0, hx1, hx2, bx0, bx1, bx2⟩ := atNode hx (k := j) (by omega)
          have hpar := stacksOk_node HO.out hxk
          have p1 := hpar.1
          have p2 := hpar.2.1
          have HT2 := Lib.hid (show upL t.Nodes (n + 1) j acc = upL t.Nodes n x.Parent (x.Frame :: acc) from by simp only [upL]; rw [if_neg (by omega), Int.toNat_natCast, hxk])
          have HXL := Lib.hid hx
          have HX := Lib.hid hxk
          clear hxk hx hpar
          go_wp2_with (at_builtin; refine wpList_append_flat (W0 := w.alloc (.cells #[.slice (some ⟨g, off, none⟩) t.Nodes.length c] 26)) (L := acc.length + 1) rfl (.tmp 26) (.tmp 27) elFrame flatFrame (fresh_one (W1 := w) (B := 0) (x := x.Frame) flatFrame (tFrame_mkR bx1 bx2) (by repeat (first | with_reducible exact Gro.refl _ | with_reducible exact Gro.refl_drew _ _ _ | with_reducible exact Gro.refl_drewN _ _ _ _ | assumption | with_reducible apply Gro.more | with_reducible apply Gro.alloc | with_reducible apply Gro.drew | with_reducible apply Gro.drewN)) (by simp)) (by repeat (first | with_reducible exact Gro.refl _ | with_reducible exact Gro.refl_drew _ _ _ | with_reducible exact Gro.refl_drewN _ _ _ _ | assumption | with_reducible apply Gro.more | with_reducible apply Gro.alloc | with_reducible apply Gro.drew | with_reducible apply Gro.drewN)) (Ty.up _ hF.out.read (by repeat (first | with_reducible exact Gro.refl _ | with_reducible exact Gro.refl_drew _ _ _ | with_reducible exact Gro.refl_drewN _ _ _ _ | assumption | with_reducible apply Gro.more | with_reducible apply Gro.alloc | with_reducible apply Gro.drew | with_reducible apply Gro.drewN))) rfl rfl rfl (by omega) (by omega) (by omega) ?_; intro B2 d2 os2 dd2 hF2)
          go_roundw
          case rel => exact ⟨x.Parent, n, x.Frame :: acc, B2, d2, rfl, rfl, .inl (by omega), by omega, by omega, by omega, by simp only [List.length_cons]; omega, Lib.hid (by rw [← HT2.out, HT.out]), Lib.hid (by repeat (first | with_reducible exact Gro.refl _ | with_reducible exact Gro.refl_drew _ _ _ | with_reducible exact Gro.refl_drewN _ _ _ _ | assumption | with_reducible apply Gro.more | with_reducible apply Gro.alloc | with_reducible apply Gro.drew | with_reducible apply Gro.drewN)), Lib.hid hF2⟩
          case measure => simp [intOf]; omega
        · have HQ := Lib.hid (show stackAt t k = acc from by
            have hneg : q < 0 := by omega
            rw [HF.out, ← HT.out]; cases n <;> simp [upL, hneg])
          go_wp2
          go_ret
          rw [HQ.out]
          exact ⟨B, cc, rfl, hF.out.since (by simp), (by repeat (first | with_reducible exact Gro.refl _ | with_reducible exact Gro.refl_drew _ _ _ | with_reducible exact Gro.refl_drewN _ _ _ _ | assumption | with_reducible apply Gro.more | with_reducible apply Gro.alloc | with_reducible apply Gro.drew | with_reducible apply Gro.drewN))⟩
    · have HF := Lib.hid (show stackAt t k = [] from by
        unfold stackAt
        rw [if_neg]
        simp only [Bool.and_eq_true, btw_iff]
        omega)
      have HO := Lib.hid hok
      clear hok
      go_enter Tryz.func49, Tryz.ntmps49
      go_wp2_with (first | (go_at_call 46; (with_reducible refine (stacksOk_s (t := t) (Ty.up _ hx (by repeat (first | with_reducible exact Gro.refl _ | with_reducible exact Gro.refl_drew _ _ _ | with_reducible exact Gro.refl_drewN _ _ _ _ | assumption | with_reducible apply Gro.more | with_reducible apply Gro.alloc | with_reducible apply Gro.drew | with_reducible apply Gro.drewN)))).mono ?_); rw [HO.out]; rintro e w1 ⟨rfl, os1, d1, rfl⟩))
      go_ret
      rw [HF.out]
      exact ⟨_, 0, rfl, fresh_empty2 (W0 := w) (by repeat (first | with_reducible exact Gro.refl _ | with_reducible exact Gro.refl_drew _ _ _ | with_reducible exact Gro.refl_drewN _ _ _ _ | assumption | with_reducible apply Gro.more | with_reducible apply Gro.alloc | with_reducible apply Gro.drew | with_reducible apply Gro.drewN)) (by repeat (first | with_reducible exact Gro.refl _ | with_reducible exact Gro.refl_drew _ _ _ | with_reducible exact Gro.refl_drewN _ _ _ _ | assumption | with_reducible apply Gro.more | with_reducible apply Gro.alloc | with_reducible apply Gro.drew | with_reducible apply Gro.drewN)) (by simp), (by repeat (first | with_reducible exact Gro.refl _ | with_reducible exact Gro.refl_drew _ _ _ | with_reducible exact Gro.refl_drewN _ _ _ _ | assumption | with_reducible apply Gro.more | with_reducible apply Gro.alloc | with_reducible apply Gro.drew | with_reducible apply Gro.drewN))⟩
end Go.Proofs.YtcomafmiclkmhaaGreatDoor
