/-
  STACKS: NameOk, frameOk, StacksOk, child, FindStack, copyStacks of the program and of the reference: what they compute.
-/
import Derived.Test.YtcomafmiclkmhaaGreatDoorFnProfile
import Derived.Test.YtcomafmiclkmhaaGreatDoorAppend
set_option linter.unusedVariables false
set_option linter.unusedSimpArgs false
namespace Go.Proofs.YtcomafmiclkmhaaGreatDoor
open Go.RowKit
def isLow (c : UInt8) : Bool := decide (97 ≤ (c.toNat : Int)) && decide ((c.toNat : Int) ≤ 122)
def nameOk (s : ByteArray) : Bool := s.data.toList.all isLow && btw s.size 1 8
def frameOk (f : DFrame) : Bool := nameOk f.Name && btw f.Line 0 59
theorem nameOk_size {s : ByteArray} (h : nameOk s = true) : 1 ≤ s.size ∧ s.size ≤ 8 := by
  unfold nameOk at h
  simp only [Bool.and_eq_true, btw_iff] at h
  omega
theorem bytes_snoc (s : ByteArray) (k : Nat) (h : k < s.size) : s.data.toList.take (k + 1) = s.data.toList.take k ++ [s[k]] := by
  rw [List.take_succ_eq_append_getElem (by simpa using h)]; rfl
theorem bytes_get (s : ByteArray) (k : Nat) (h : k < s.size) : s.data.toList[k]? = some s[k] := by
  rw [List.getElem?_eq_getElem (by simpa using h)]; rfl
theorem all_snoc {α : Type} {xs : List α} {f : α → Bool} {j : Nat} {x : α} (h : xs[j]? = some x) (ha : (xs.take j).all f = true) (hf : f x = true) : (xs.take (j + 1)).all f = true := by
  rw [take_snoc h, List.all_append, ha]
  simp [hf]
theorem all_not {α : Type} {xs : List α} {f : α → Bool} {j : Nat} {x : α} (h : xs[j]? = some x) (hf : f x = false) : xs.all f = false := by
  rw [List.all_eq_false]
  exact ⟨x, List.mem_of_getElem? h, by simp [hf]⟩
theorem nameOk_i (s : ByteArray) (w : World) (hs : s.size ≤ 9223372036854775807) : Calls Tryz.prog 79 #[.string s] w fun e w' => e = .returned (.bool (nameOk s)) ∧ w = w' := by
  go_enter Tryz.func79, Tryz.ntmps79
  go_wp2_with (fail)
  go_loop [3] (fun i => ∃ k : Nat, k ≤ s.size ∧ i = .int .i64 k ∧ Hid ((s.data.toList.take k).all isLow = true)) (fun i => s.size - (intOf i).toNat)
  case atStart => exact ⟨0, Nat.zero_le _, rfl, Lib.hid (by simp)⟩
  case round =>
    obtain ⟨k, hk, rfl, ha⟩ := hrel
    by_cases hlt : k < s.size
    · have HX := Lib.hid (bytes_get s k hlt)
      by_cases h1 : 97 ≤ (s[k].toNat : Int)
      · by_cases h2 : (s[k].toNat : Int) ≤ 122
        · go_wp2
          go_round
          case rel => exact ⟨k + 1, by omega, by go_num, Lib.hid (all_snoc HX.out ha.out (by simp only [isLow, Bool.and_eq_true, decide_eq_true_eq]; exact ⟨h1, h2⟩))⟩
          case measure => simp [intOf]; omega
        · have HF := Lib.hid (all_not (f := isLow) HX.out (by simp only [isLow, Bool.and_eq_false_iff, decide_eq_false_iff_not]; exact .inr h2))
          go_wp2
          go_ret
          exact ⟨ret_bool (by unfold nameOk; rw [HF.out]; rfl), rfl⟩
      · have HF := Lib.hid (all_not (f := isLow) HX.out (by simp only [isLow, Bool.and_eq_false_iff, decide_eq_false_iff_not]; exact .inl h1))
        go_wp2
        go_ret
        exact ⟨ret_bool (by unfold nameOk; rw [HF.out]; rfl), rfl⟩
    · have hje : k = s.size := by omega
      subst hje
      have HA := Lib.hid (show nameOk s = btw s.size 1 8 from by unfold nameOk; rw [← List.take_length (l := s.data.toList)]; have := ha.out; rw [show s.size = s.data.toList.length from by rw [Array.length_toList]; rfl] at this; rw [this]; rfl)
      clear ha
      go_wp2_with (first | (go_at_call 33; (with_reducible refine (in_i _ _ _ _).mono ?_); rintro e w1 ⟨rfl, rfl⟩))
      go_ret
      exact ⟨ret_bool HA.out.symm, rfl⟩
theorem nameOk_s (s : ByteArray) (w : World) (hs : s.size ≤ 9223372036854775807) : Calls Tryz.prog 75 #[.string s] w fun e w' => e = .returned (.bool (nameOk s)) ∧ w = w' := by
  go_enter Tryz.func75, Tryz.ntmps75
  go_wp2_with (fail)
  go_loop [3] (fun i => ∃ k : Nat, k ≤ s.size ∧ i = .int .i64 k ∧ Hid ((s.data.toList.take k).all isLow = true)) (fun i => s.size - (intOf i).toNat)
  case atStart => exact ⟨0, Nat.zero_le _, rfl, Lib.hid (by simp)⟩
  case round =>
    obtain ⟨k, hk, rfl, ha⟩ := hrel
    by_cases hlt : k < s.size
    · have HX := Lib.hid (bytes_get s k hlt)
      by_cases h1 : 97 ≤ (s[k].toNat : Int)
      · by_cases h2 : (s[k].toNat : Int) ≤ 122
        · go_wp2
          go_round
          case rel => exact ⟨k + 1, by omega, by go_num, Lib.hid (all_snoc HX.out ha.out (by simp only [isLow, Bool.and_eq_true, decide_eq_true_eq]; exact ⟨h1, h2⟩))⟩
          case measure => simp [intOf]; omega
        · have HF := Lib.hid (all_not (f := isLow) HX.out (by simp only [isLow, Bool.and_eq_false_iff, decide_eq_false_iff_not]; exact .inr h2))
          go_wp2
          go_ret
          exact ⟨ret_bool (by unfold nameOk; rw [HF.out]; rfl), rfl⟩
      · have HF := Lib.hid (all_not (f := isLow) HX.out (by simp only [isLow, Bool.and_eq_false_iff, decide_eq_false_iff_not]; exact .inl h1))
        go_wp2
        go_ret
        exact ⟨ret_bool (by unfold nameOk; rw [HF.out]; rfl), rfl⟩
    · have hje : k = s.size := by omega
      subst hje
      have HA := Lib.hid (show nameOk s = btw s.size 1 8 from by unfold nameOk; rw [← List.take_length (l := s.data.toList)]; have := ha.out; rw [show s.size = s.data.toList.length from by rw [Array.length_toList]; rfl] at this; rw [this]; rfl)
      clear ha
      go_wp2_with (first | (go_at_call 47; (with_reducible refine (in_s _ _ _ _).mono ?_); rintro e w1 ⟨rfl, rfl⟩))
      go_ret
      exact ⟨ret_bool HA.out.symm, rfl⟩
theorem frameOk_i {f : DFrame} {w : World} (h0 : f.Name.size ≤ 9223372036854775807) : Calls Tryz.prog 53 #[.agg #[.string f.Name, .int .i64 f.Line]] w fun e w' => e = .returned (.bool (frameOk f)) ∧ Gro w w' := by
  have HO := Lib.hid (show frameOk f = (nameOk f.Name && btw f.Line 0 59) from rfl)
  generalize hn : nameOk f.Name = b at HO
  have HN := Lib.hid hn
  clear hn
  cases b
  all_goals
    go_enter Tryz.func53, Tryz.ntmps53
    go_wp2_with (first
      | (go_at_call 79; (with_reducible refine (nameOk_i _ _ (by assumption)).mono ?_); rw [HN.out]; rintro e w1 ⟨rfl, rfl⟩)
      | (go_at_call 33; (with_reducible refine (in_i _ _ _ _).mono ?_); rintro e w1 ⟨rfl, rfl⟩))
    go_ret
    exact ⟨ret_bool (by rw [HO.out]; rfl), (by repeat (first | with_reducible exact Gro.refl _ | with_reducible exact Gro.refl_drew _ _ _ | with_reducible exact Gro.refl_drewN _ _ _ _ | assumption | with_reducible apply Gro.more | with_reducible apply Gro.alloc | with_reducible apply Gro.drew | with_reducible apply Gro.drewN))⟩
theorem frameOk_s {f : DFrame} {w : World} (h0 : f.Name.size ≤ 9223372036854775807) : Calls Tryz.prog 74 #[.agg #[.string f.Name, .int .i64 f.Line]] w fun e w' => e = .returned (.bool (frameOk f)) ∧ Gro w w' := by
  have HO := Lib.hid (show frameOk f = (nameOk f.Name && btw f.Line 0 59) from rfl)
  generalize hn : nameOk f.Name = b at HO
  have HN := Lib.hid hn
  clear hn
  cases b
  all_goals
    go_enter Tryz.func74, Tryz.ntmps74
    go_wp2_with (first
      | (go_at_call 75; (with_reducible refine (nameOk_s _ _ (by assumption)).mono ?_); rw [HN.out]; rintro e w1 ⟨rfl, rfl⟩)
      | (go_at_call 47; (with_reducible refine (in_s _ _ _ _).mono ?_); rintro e w1 ⟨rfl, rfl⟩))
    go_ret
    exact ⟨ret_bool (by rw [HO.out]; rfl), (by repeat (first | with_reducible exact Gro.refl _ | with_reducible exact Gro.refl_drew _ _ _ | with_reducible exact Gro.refl_drewN _ _ _ _ | assumption | with_reducible apply Gro.more | with_reducible apply Gro.alloc | with_reducible apply Gro.drew | with_reducible apply Gro.drewN))⟩
def nodeOk (ns : List DNode) (k : Nat) : Bool := match ns[k]? with
  | some x => btw x.Parent (-1) ((k : Int) - 1) && (frameOk x.Frame && (ns.take k).all (fun y => decide (y ≠ x)))
  | none => true
def stacksOk (t : DStacks) : Bool := (List.range t.Nodes.length).all (nodeOk t.Nodes)
theorem range_snoc {k : Nat} {f : Nat → Bool} (h : (List.range k).all f = true) (hf : f k = true) : (List.range (k + 1)).all f = true := by
  rw [List.range_succ, List.all_append, h]
  simp [hf]
theorem range_not {k n : Nat} {f : Nat → Bool} (h : k < n) (hf : f k = false) : (List.range n).all f = false := by
  rw [List.all_eq_false]
  exact ⟨k, List.mem_range.2 h, by simp [hf]⟩
set_option maxRecDepth 100000 in
set_option maxHeartbeats 1000000 in
theorem stacksOk_i {t : DStacks} {w : World} {A : Option Addr} {c : Nat} (hx : (tNode.sl 48).R w w.heap.size [.slice A t.Nodes.length c] t.Nodes) :
    Calls Tryz.prog 32 #[.agg #[.slice A t.Nodes.length c]] w fun e w' => e = .returned (.bool (stacksOk t)) ∧ Gro w w' := by
  obtain ⟨ns⟩ := t
  simp only at hx ⊢
  obtain ⟨_, _, hv, h2, h3⟩ := sl_at hx
  injection hv with hA _ hc
  subst hA hc
  go_enter Tryz.func32, Tryz.ntmps32
  go_wp2_with (fail)
  go_loopw [10] (fun i wr => ∃ k : Nat, k ≤ ns.length ∧ i = .int .i64 k ∧ Hid (Gro (w.alloc (.cells #[.slice A ns.length c] 26)) wr) ∧ Hid ((List.range k).all (nodeOk ns) = true)) (fun i _ => ns.length - (intOf i).toNat)
  case atStart => exact ⟨0, Nat.zero_le _, rfl, Gro.refl _, Lib.hid (by simp)⟩
  case round =>
    obtain ⟨k, hk, rfl, hG, HT⟩ := hrel
    obtain ⟨os, d, rfl⟩ := hG.out
    clear hG
    by_cases hlt : k < ns.length
    · obtain ⟨g, off, x, rfl, hgb, hxk, hx0, hx1, hx2, bx0, bx1, bx2⟩ := atNode hx hlt
      have HX := Lib.hid hxk
      have HXL := Lib.hid hx
      clear hxk hx
      cases hb1 : btw x.Parent (-1) ((k : Int) - 1)
      · have HF := Lib.hid (show stacksOk ⟨ns⟩ = false from range_not hlt (by unfold nodeOk; rw [HX.out]; simp only [hb1]; rfl))
        have HB := Lib.hid hb1
        clear hb1
        go_wp2_with (first
          | (go_at_call 33; (with_reducible refine (in_i _ _ _ _).mono ?_); rw [HB.out]; rintro e w1 ⟨rfl, rfl⟩))
        go_ret
        exact ⟨ret_bool HF.out.symm, (by repeat (first | with_reducible exact Gro.refl _ | with_reducible exact Gro.refl_drew _ _ _ | with_reducible exact Gro.refl_drewN _ _ _ _ | assumption | with_reducible apply Gro.more | with_reducible apply Gro.alloc | with_reducible apply Gro.drew | with_reducible apply Gro.drewN))⟩
      · have HB := Lib.hid hb1
        clear hb1
        cases hf1 : frameOk x.Frame
        · have HF := Lib.hid (show stacksOk ⟨ns⟩ = false from range_not hlt (by unfold nodeOk; rw [HX.out]; simp only [HB.out, hf1]; rfl))
          have HR := Lib.hid hf1
          clear hf1
          go_wp2_with (first
            | (go_at_call 33; (with_reducible refine (in_i _ _ _ _).mono ?_); rw [HB.out]; rintro e w1 ⟨rfl, rfl⟩)
            | (go_at_call 53; (with_reducible refine (frameOk_i (f := x.Frame) bx1).mono ?_); rw [HR.out]; rintro e w1 ⟨rfl, os1, d1, rfl⟩))
          go_ret
          exact ⟨ret_bool HF.out.symm, (by repeat (first | with_reducible exact Gro.refl _ | with_reducible exact Gro.refl_drew _ _ _ | with_reducible exact Gro.refl_drewN _ _ _ _ | assumption | with_reducible apply Gro.more | with_reducible apply Gro.alloc | with_reducible apply Gro.drew | with_reducible apply Gro.drewN))⟩
        · have HR := Lib.hid hf1
          clear hf1
          go_wp2_with (first
            | (go_at_call 33; (with_reducible refine (in_i _ _ _ _).mono ?_); rw [HB.out]; rintro e w1 ⟨rfl, rfl⟩)
            | (go_at_call 53; (with_reducible refine (frameOk_i (f := x.Frame) bx1).mono ?_); rw [HR.out]; rintro e w1 ⟨rfl, os1, d1, rfl⟩))
          go_loopw [32] (fun i wr => ∃ q : Nat, q ≤ k ∧ i = .int .i64 q ∧ Hid (Gro (gro ((gro (w.alloc (.cells #[.slice (some ⟨g, off, none⟩) ns.length c] 26)) os d).alloc (.cells #[.int .i64 x.Parent, .string x.Frame.Name, .int .i64 x.Frame.Line] 48)) os1 d1) wr) ∧ Hid ((ns.take q).all (fun y => decide (y ≠ x)) = true)) (fun i _ => k - (intOf i).toNat)
          case atStart => exact ⟨0, Nat.zero_le _, rfl, Gro.refl _, Lib.hid (by simp)⟩
          case round =>
            obtain ⟨q, hq, rfl, hG2, HT2⟩ := hrel
            obtain ⟨os2, d2, rfl⟩ := hG2.out
            clear hG2
            by_cases hlq : q < k
            · obtain ⟨_, _, y, hv, _, hyq, hy0, hy1, hy2, by0, by1, by2⟩ := atNode HXL.out (show q < ns.length by omega)
              injection hv with hv
              injection hv with hv1 hv2
              subst hv1 hv2
              have HY := Lib.hid hyq
              clear hyq
              by_cases hxy : y = x
              · subst hxy
                have HF := Lib.hid (show stacksOk ⟨ns⟩ = false from range_not hlt (by
                  have hm : (ns.take k).all (fun z => decide (z ≠ y)) = false := all_not (j := q) (x := y) (by rw [List.getElem?_take, if_pos hlq]; exact HY.out) (by simp)
                  unfold nodeOk; rw [HX.out]; simp only [hm, Bool.and_false]))
                go_wp2
                go_ret
                exact ⟨ret_bool HF.out.symm, (by repeat (first | with_reducible exact Gro.refl _ | with_reducible exact Gro.refl_drew _ _ _ | with_reducible exact Gro.refl_drewN _ _ _ _ | assumption | with_reducible apply Gro.more | with_reducible apply Gro.alloc | with_reducible apply Gro.drew | with_reducible apply Gro.drewN))⟩
              · have HNE := Lib.hid hxy
                have HT3 := Lib.hid (all_snoc HY.out HT2.out (by simp [hxy]))
                clear hxy
                by_cases c1 : x.Parent = y.Parent
                · have e1 : (x.Parent == y.Parent) = true := by simp [c1]
                  have C1 := Lib.hid c1
                  clear c1
                  by_cases c2 : x.Frame.Name = y.Frame.Name
                  · have e2 : (x.Frame.Name.toList == y.Frame.Name.toList) = true := by simp [c2]
                    have C2 := Lib.hid c2
                    clear c2
                    have e3 : (x.Frame.Line == y.Frame.Line) = false := by
                      simp only [beq_eq_false_iff_ne]
                      intro c3
                      exact HNE.out (by rw [eq_DNode, eq_DFrame]; exact ⟨C1.out.symm, C2.out.symm, c3.symm⟩)
                    go_wp2_with (fail)
                    go_roundw
                    case rel => exact ⟨q + 1, by omega, by go_num, Lib.hid (by repeat (first | with_reducible exact Gro.refl _ | with_reducible exact Gro.refl_drew _ _ _ | with_reducible exact Gro.refl_drewN _ _ _ _ | assumption | with_reducible apply Gro.more | with_reducible apply Gro.alloc | with_reducible apply Gro.drew | with_reducible apply Gro.drewN)), HT3⟩
                    case measure => simp [intOf]; omega
                  · have e2 : (x.Frame.Name.toList == y.Frame.Name.toList) = false := by rw [str_eqb]; simp [c2]
                    clear c2
                    go_wp2_with (fail)
                    go_roundw
                    case rel => exact ⟨q + 1, by omega, by go_num, Lib.hid (by repeat (first | with_reducible exact Gro.refl _ | with_reducible exact Gro.refl_drew _ _ _ | with_reducible exact Gro.refl_drewN _ _ _ _ | assumption | with_reducible apply Gro.more | with_reducible apply Gro.alloc | with_reducible apply Gro.drew | with_reducible apply Gro.drewN)), HT3⟩
                    case measure => simp [intOf]; omega
                · have e1 : (x.Parent == y.Parent) = false := by simp [c1]
                  clear c1
                  go_wp2_with (fail)
                  go_roundw
                  case rel => exact ⟨q + 1, by omega, by go_num, Lib.hid (by repeat (first | with_reducible exact Gro.refl _ | with_reducible exact Gro.refl_drew _ _ _ | with_reducible exact Gro.refl_drewN _ _ _ _ | assumption | with_reducible apply Gro.more | with_reducible apply Gro.alloc | with_reducible apply Gro.drew | with_reducible apply Gro.drewN)), HT3⟩
                  case measure => simp [intOf]; omega
            · have hje : q = k := by omega
              subst hje
              go_wp2_with (fail)
              go_roundw
              case rel => exact ⟨q + 1, by omega, by go_num, Lib.hid (by repeat (first | with_reducible exact Gro.refl _ | with_reducible exact Gro.refl_drew _ _ _ | with_reducible exact Gro.refl_drewN _ _ _ _ | assumption | with_reducible apply Gro.more | with_reducible apply Gro.alloc | with_reducible apply Gro.drew | with_reducible apply Gro.drewN)), Lib.hid (range_snoc HT.out (by unfold nodeOk; rw [HX.out]; simp only [HB.out, HR.out, HT2.out]; rfl))⟩
              case measure => simp [intOf]; omega
    · have hje : k = ns.length := by omega
      subst hje
      have HF := Lib.hid (show stacksOk ⟨ns⟩ = true from HT.out)
      go_wp2
      go_ret
      exact ⟨ret_bool HF.out.symm, (by repeat (first | with_reducible exact Gro.refl _ | with_reducible exact Gro.refl_drew _ _ _ | with_reducible exact Gro.refl_drewN _ _ _ _ | assumption | with_reducible apply Gro.more | with_reducible apply Gro.alloc | with_reducible apply Gro.drew | with_reducible apply Gro.drewN))⟩
set_option maxRecDepth 100000 in
set_option maxHeartbeats 1000000 in
theorem stacksOk_s {t : DStacks} {w : World} {A : Option Addr} {c : Nat} (hx : (tNode.sl 48).R w w.heap.size [.slice A t.Nodes.length c] t.Nodes) :
    Calls Tryz.prog 46 #[.agg #[.slice A t.Nodes.length c]] w fun e w' => e = .returned (.bool (stacksOk t)) ∧ Gro w w' := by
  obtain ⟨ns⟩ := t
  simp only at hx ⊢
  obtain ⟨_, _, hv, h2, h3⟩ := sl_at hx
  injection hv with hA _ hc
  subst hA hc
  go_enter Tryz.func46, Tryz.ntmps46
  go_wp2_with (fail)
  go_loopw [3] (fun i wr => ∃ k : Nat, k ≤ ns.length ∧ i = .int .i64 k ∧ Hid (Gro (w.alloc (.cells #[.slice A ns.length c] 26)) wr) ∧ Hid ((List.range k).all (nodeOk ns) = true)) (fun i _ => ns.length - (intOf i).toNat)
  case atStart => exact ⟨0, Nat.zero_le _, rfl, Gro.refl _, Lib.hid (by simp)⟩
  case round =>
    obtain ⟨k, hk, rfl, hG, HT⟩ := hrel
    obtain ⟨os, d, rfl⟩ := hG.out
    clear hG
    by_cases hlt : k < ns.length
    · obtain ⟨g, off, x, rfl, hgb, hxk, hx0, hx1, hx2, bx0, bx1, bx2⟩ := atNode hx hlt
      have HX := Lib.hid hxk
      have HXL := Lib.hid hx
      clear hxk hx
      cases hb1 : btw x.Parent (-1) ((k : Int) - 1)
      · have HF := Lib.hid (show stacksOk ⟨ns⟩ = false from range_not hlt (by unfold nodeOk; rw [HX.out]; simp only [hb1]; rfl))
        have HB := Lib.hid hb1
        clear hb1
        go_wp2_with (first
          | (go_at_call 47; (with_reducible refine (in_s _ _ _ _).mono ?_); rw [HB.out]; rintro e w1 ⟨rfl, rfl⟩))
        go_ret
        exact ⟨ret_bool HF.out.symm, (by repeat (first | with_reducible exact Gro.refl _ | with_reducible exact Gro.refl_drew _ _ _ | with_reducible exact Gro.refl_drewN _ _ _ _ | assumption | with_reducible apply Gro.more | with_reducible apply Gro.alloc | with_reducible apply Gro.drew | with_reducible apply Gro.drewN))⟩
      · have HB := Lib.hid hb1
        clear hb1
        cases hf1 : frameOk x.Frame
        · have HF := Lib.hid (show stacksOk ⟨ns⟩ = false from range_not hlt (by unfold nodeOk; rw [HX.out]; simp only [HB.out, hf1]; rfl))
          have HR := Lib.hid hf1
          clear hf1
          go_wp2_with (first
            | (go_at_call 47; (with_reducible refine (in_s _ _ _ _).mono ?_); rw [HB.out]; rintro e w1 ⟨rfl, rfl⟩)
            | (go_at_call 74; (with_reducible refine (frameOk_s (f := x.Frame) bx1).mono ?_); rw [HR.out]; rintro e w1 ⟨rfl, os1, d1, rfl⟩))
          go_ret
          exact ⟨ret_bool HF.out.symm, (by repeat (first | with_reducible exact Gro.refl _ | with_reducible exact Gro.refl_drew _ _ _ | with_reducible exact Gro.refl_drewN _ _ _ _ | assumption | with_reducible apply Gro.more | with_reducible apply Gro.alloc | with_reducible apply Gro.drew | with_reducible apply Gro.drewN))⟩
        · have HR := Lib.hid hf1
          clear hf1
          go_wp2_with (first
            | (go_at_call 47; (with_reducible refine (in_s _ _ _ _).mono ?_); rw [HB.out]; rintro e w1 ⟨rfl, rfl⟩)
            | (go_at_call 74; (with_reducible refine (frameOk_s (f := x.Frame) bx1).mono ?_); rw [HR.out]; rintro e w1 ⟨rfl, os1, d1, rfl⟩))
          go_loopw [4] (fun i wr => ∃ q : Nat, q ≤ k ∧ i = .int .i64 q ∧ Hid (Gro (gro (gro (w.alloc (.cells #[.slice (some ⟨g, off, none⟩) ns.length c] 26)) os d) os1 d1) wr) ∧ Hid ((ns.take q).all (fun y => decide (y ≠ x)) = true)) (fun i _ => k - (intOf i).toNat)
          case atStart => exact ⟨0, Nat.zero_le _, rfl, Gro.refl _, Lib.hid (by simp)⟩
          case round =>
            obtain ⟨q, hq, rfl, hG2, HT2⟩ := hrel
            obtain ⟨os2, d2, rfl⟩ := hG2.out
            clear hG2
            by_cases hlq : q < k
            · obtain ⟨_, _, y, hv, _, hyq, hy0, hy1, hy2, by0, by1, by2⟩ := atNode HXL.out (show q < ns.length by omega)
              injection hv with hv
              injection hv with hv1 hv2
              subst hv1 hv2
              have HY := Lib.hid hyq
              clear hyq
              by_cases hxy : y = x
              · subst hxy
                have HF := Lib.hid (show stacksOk ⟨ns⟩ = false from range_not hlt (by
                  have hm : (ns.take k).all (fun z => decide (z ≠ y)) = false := all_not (j := q) (x := y) (by rw [List.getElem?_take, if_pos hlq]; exact HY.out) (by simp)
                  unfold nodeOk; rw [HX.out]; simp only [hm, Bool.and_false]))
                go_wp2_with (fail)
                go_quiet (fail)
                go_wp2
                go_ret
                exact ⟨ret_bool HF.out.symm, (by repeat (first | with_reducible exact Gro.refl _ | with_reducible exact Gro.refl_drew _ _ _ | with_reducible exact Gro.refl_drewN _ _ _ _ | assumption | with_reducible apply Gro.more | with_reducible apply Gro.alloc | with_reducible apply Gro.drew | with_reducible apply Gro.drewN))⟩
              · have HNE := Lib.hid hxy
                have HT3 := Lib.hid (all_snoc HY.out HT2.out (by simp [hxy]))
                clear hxy
                by_cases c1 : y.Parent = x.Parent
                · have e1 : (y.Parent == x.Parent) = true := by simp [c1]
                  have C1 := Lib.hid c1
                  clear c1
                  by_cases c2 : y.Frame.Name = x.Frame.Name
                  · have e2 : (y.Frame.Name.toList == x.Frame.Name.toList) = true := by simp [c2]
                    have C2 := Lib.hid c2
                    clear c2
                    have e3 : (y.Frame.Line == x.Frame.Line) = false := by
                      simp only [beq_eq_false_iff_ne]
                      intro c3
                      exact HNE.out (by rw [eq_DNode, eq_DFrame]; exact ⟨C1.out, C2.out, c3⟩)
                    go_wp2_with (fail)
                    go_quiet (fail)
                    go_wp2
                    go_roundw
                    case rel => exact ⟨q + 1, by omega, by go_num, Lib.hid (by repeat (first | with_reducible exact Gro.refl _ | with_reducible exact Gro.refl_drew _ _ _ | with_reducible exact Gro.refl_drewN _ _ _ _ | assumption | with_reducible apply Gro.more | with_reducible apply Gro.alloc | with_reducible apply Gro.drew | with_reducible apply Gro.drewN)), HT3⟩
                    case measure => simp [intOf]; omega
                  · have e2 : (y.Frame.Name.toList == x.Frame.Name.toList) = false := by rw [str_eqb]; simp [c2]
                    clear c2
                    go_wp2_with (fail)
                    go_quiet (fail)
                    go_wp2
                    go_roundw
                    case rel => exact ⟨q + 1, by omega, by go_num, Lib.hid (by repeat (first | with_reducible exact Gro.refl _ | with_reducible exact Gro.refl_drew _ _ _ | with_reducible exact Gro.refl_drewN _ _ _ _ | assumption | with_reducible apply Gro.more | with_reducible apply Gro.alloc | with_reducible apply Gro.drew | with_reducible apply Gro.drewN)), HT3⟩
                    case measure => simp [intOf]; omega
                · have e1 : (y.Parent == x.Parent) = false := by simp [c1]
                  clear c1
                  go_wp2_with (fail)
                  go_quiet (fail)
                  go_wp2
                  go_roundw
                  case rel => exact ⟨q + 1, by omega, by go_num, Lib.hid (by repeat (first | with_reducible exact Gro.refl _ | with_reducible exact Gro.refl_drew _ _ _ | with_reducible exact Gro.refl_drewN _ _ _ _ | assumption | with_reducible apply Gro.more | with_reducible apply Gro.alloc | with_reducible apply Gro.drew | with_reducible apply Gro.drewN)), HT3⟩
                  case measure => simp [intOf]; omega
            · have hje : q = k := by omega
              subst hje
              go_wp2_with (fail)
              go_roundw
              case rel => exact ⟨q + 1, by omega, by go_num, Lib.hid (by repeat (first | with_reducible exact Gro.refl _ | with_reducible exact Gro.refl_drew _ _ _ | with_reducible exact Gro.refl_drewN _ _ _ _ | assumption | with_reducible apply Gro.more | with_reducible apply Gro.alloc | with_reducible apply Gro.drew | with_reducible apply Gro.drewN)), Lib.hid (range_snoc HT.out (by unfold nodeOk; rw [HX.out]; simp only [HB.out, HR.out, HT2.out]; rfl))⟩
              case measure => simp [intOf]; omega
    · have hje : k = ns.length := by omega
      subst hje
      have HF := Lib.hid (show stacksOk ⟨ns⟩ = true from HT.out)
      go_wp2
      go_ret
      exact ⟨ret_bool HF.out.symm, (by repeat (first | with_reducible exact Gro.refl _ | with_reducible exact Gro.refl_drew _ _ _ | with_reducible exact Gro.refl_drewN _ _ _ _ | assumption | with_reducible apply Gro.more | with_reducible apply Gro.alloc | with_reducible apply Gro.drew | with_reducible apply Gro.drewN))⟩
set_option maxRecDepth 100000 in
theorem copyStacks_i {t : DStacks} {w : World} {A : Option Addr} {c : Nat} (hx : (tNode.sl 48).R w w.heap.size [.slice A t.Nodes.length c] t.Nodes) (hn : t.Nodes.length ≤ 1099511627776) :
    Calls Tryz.prog 82 #[.agg #[.slice A t.Nodes.length c]] w (RetStacks t w) := by
  go_enter Tryz.func82, Tryz.ntmps82
  go_wp2_with (at_builtin; refine wpList_append_flat rfl (.tmp 3) (.tmp 5) elNode flatNode (fresh_empty (Gro.refl _) (by simp)) ((Gro.refl _).alloc _) (Ty.up _ hx (by repeat (first | with_reducible exact Gro.refl _ | with_reducible exact Gro.refl_drew _ _ _ | with_reducible exact Gro.refl_drewN _ _ _ _ | assumption | with_reducible apply Gro.more | with_reducible apply Gro.alloc | with_reducible apply Gro.drew | with_reducible apply Gro.drewN))) rfl rfl rfl (Nat.zero_add _).symm (by omega) (by omega) ?_; intro B0 d0 os d hF)
  refine bodyPost_ret (v := .agg #[.slice B0 t.Nodes.length d0]) (by simp [results, Tryz.results82, go_sem]) rfl ⟨B0, d0, rfl, ?_, (by repeat (first | with_reducible exact Gro.refl _ | with_reducible exact Gro.refl_drew _ _ _ | with_reducible exact Gro.refl_drewN _ _ _ _ | assumption | with_reducible apply Gro.more | with_reducible apply Gro.alloc | with_reducible apply Gro.drew | with_reducible apply Gro.drewN))⟩
  exact tStacks_fresh (hF.fre.same (by repeat (first | with_reducible exact Same.refl _ _ _ | ((with_reducible refine Same.base ?_ ?_) <;> (simp <;> omega)) | ((with_reducible refine Same.more ?_ ?_ _ _); rotate_left; simp <;> omega) | ((with_reducible refine Same.alloc ?_ ?_ _); rotate_left; simp <;> omega) | with_reducible apply Same.drew | with_reducible apply Same.drewN))) (by simp; omega)
set_option maxRecDepth 100000 in
theorem copyStacks_s {t : DStacks} {w : World} {A : Option Addr} {c : Nat} (hx : (tNode.sl 48).R w w.heap.size [.slice A t.Nodes.length c] t.Nodes) (hn : t.Nodes.length ≤ 1099511627776) :
    Calls Tryz.prog 77 #[.agg #[.slice A t.Nodes.length c]] w (RetStacks t w) := by
  go_enter Tryz.func77, Tryz.ntmps77
  go_wp2_with (at_builtin; refine wpList_append_flat rfl (.tmp 3) (.tmp 5) elNode flatNode (fresh_empty (Gro.refl _) (by simp)) ((Gro.refl _).alloc _) (Ty.up _ hx (by repeat (first | with_reducible exact Gro.refl _ | with_reducible exact Gro.refl_drew _ _ _ | with_reducible exact Gro.refl_drewN _ _ _ _ | assumption | with_reducible apply Gro.more | with_reducible apply Gro.alloc | with_reducible apply Gro.drew | with_reducible apply Gro.drewN))) rfl rfl rfl (Nat.zero_add _).symm (by omega) (by omega) ?_; intro B0 d0 os d hF)
  refine bodyPost_ret (v := .agg #[.slice B0 t.Nodes.length d0]) (by simp [results, Tryz.results77, go_sem]) rfl ⟨B0, d0, rfl, ?_, (by repeat (first | with_reducible exact Gro.refl _ | with_reducible exact Gro.refl_drew _ _ _ | with_reducible exact Gro.refl_drewN _ _ _ _ | assumption | with_reducible apply Gro.more | with_reducible apply Gro.alloc | with_reducible apply Gro.drew | with_reducible apply Gro.drewN))⟩
  exact tStacks_fresh (hF.fre.same (by repeat (first | with_reducible exact Same.refl _ _ _ | ((with_reducible refine Same.base ?_ ?_) <;> (simp <;> omega)) | ((with_reducible refine Same.more ?_ ?_ _ _); rotate_left; simp <;> omega) | ((with_reducible refine Same.alloc ?_ ?_ _); rotate_left; simp <;> omega) | with_reducible apply Same.drew | with_reducible apply Same.drewN))) (by simp; omega)
def isChild (p : Int) (f : DFrame) (x : DNode) : Bool := decide (x.Parent = p) && decide (x.Frame = f)
def childV (ns : List DNode) (p : Int) (f : DFrame) : Int := match ns.findIdx? (isChild p f) with
  | some i => i
  | none => -1
theorem findIdx_at {α : Type} {f : α → Bool} {xs : List α} {k : Nat} {x : α} (h : xs[k]? = some x) (ha : (xs.take k).all (fun y => !f y) = true) (hf : f x = true) : xs.findIdx? f = some k := by
  induction xs generalizing k with
  | nil => simp at h
  | cons y ys ih =>
    cases k with
    | zero =>
      simp at h
      subst h
      simp [List.findIdx?_cons, hf]
    | succ k =>
      simp only [List.getElem?_cons_succ] at h
      simp only [List.take_succ_cons, List.all_cons, Bool.and_eq_true] at ha
      have hy : f y = false := by simpa using ha.1
      rw [List.findIdx?_cons, hy, ih h ha.2]
      simp
theorem findIdx_no {α : Type} {f : α → Bool} {xs : List α} (ha : xs.all (fun y => !f y) = true) : xs.findIdx? f = none := by
  rw [List.findIdx?_eq_none_iff]
  intro x hx
  have := List.all_eq_true.1 ha x hx
  simpa using this
theorem child_lt {ns : List DNode} {p : Int} {f : DFrame} : -1 ≤ childV ns p f ∧ childV ns p f < ns.length := by
  unfold childV
  split
  · rename_i i h
    have := (List.findIdx?_eq_some_iff_getElem.1 h).1
    omega
  · omega
set_option maxRecDepth 100000 in
set_option maxHeartbeats 1000000 in
theorem child_i {ns : List DNode} {p : Int} {f : DFrame} {w : World} {A : Option Addr} {c : Nat} (hx : (tNode.sl 48).R w w.heap.size [.slice A ns.length c] ns) :
    Calls Tryz.prog 83 #[.agg #[.slice A ns.length c], .int .i64 p, .agg #[.string f.Name, .int .i64 f.Line]] w fun e w' => e = .returned (.int .i64 (childV ns p f)) ∧ Gro w w' := by
  obtain ⟨_, _, hv, h2, h3⟩ := sl_at hx
  injection hv with hA _ hc
  subst hA hc
  go_enter Tryz.func83, Tryz.ntmps83
  go_wp2_with (fail)
  go_loopw [12] (fun i wr => ∃ k : Nat, k ≤ ns.length ∧ i = .int .i64 k ∧ Hid (Gro ((w.alloc (.cells #[.slice A ns.length c] 26)).alloc (.cells #[.string f.Name, .int .i64 f.Line] 46)) wr) ∧ Hid ((ns.take k).all (fun y => !isChild p f y) = true)) (fun i _ => ns.length - (intOf i).toNat)
  case atStart => exact ⟨0, Nat.zero_le _, rfl, Gro.refl _, Lib.hid (by simp)⟩
  case round =>
    obtain ⟨k, hk, rfl, hG, HT⟩ := hrel
    obtain ⟨os, d, rfl⟩ := hG.out
    clear hG
    by_cases hlt : k < ns.length
    · obtain ⟨g, off, x, rfl, hgb, hxk, hx0, hx1, hx2, bx0, bx1, bx2⟩ := atNode hx hlt
      have HX := Lib.hid hxk
      clear hxk hx
      by_cases c1 : x.Parent = p
      · have e1 : (x.Parent == p) = true := by simp [c1]
        by_cases c2 : x.Frame.Name = f.Name
        · have e2 : (x.Frame.Name.toList == f.Name.toList) = true := by simp [c2]
          by_cases c3 : x.Frame.Line = f.Line
          · have e3 : (x.Frame.Line == f.Line) = true := by simp [c3]
            have HF := Lib.hid (show childV ns p f = k from by unfold childV; rw [findIdx_at HX.out HT.out (by simp [isChild, c1, eq_DFrame, c2, c3])])
            clear c1 c2 c3
            go_wp2_with (fail)
            go_ret
            exact ⟨ret_int HF.out.symm, (by repeat (first | with_reducible exact Gro.refl _ | with_reducible exact Gro.refl_drew _ _ _ | with_reducible exact Gro.refl_drewN _ _ _ _ | assumption | with_reducible apply Gro.more | with_reducible apply Gro.alloc | with_reducible apply Gro.drew | with_reducible apply Gro.drewN))⟩
          · have e3 : (x.Frame.Line == f.Line) = false := by simp [c3]
            have HF := Lib.hid (all_snoc HX.out HT.out (by simp [isChild, eq_DFrame, c3]))
            clear c1 c2 c3
            go_wp2_with (fail)
            go_roundw
            case rel => exact ⟨k + 1, by omega, by go_num, Lib.hid (by repeat (first | with_reducible exact Gro.refl _ | with_reducible exact Gro.refl_drew _ _ _ | with_reducible exact Gro.refl_drewN _ _ _ _ | assumption | with_reducible apply Gro.more | with_reducible apply Gro.alloc | with_reducible apply Gro.drew | with_reducible apply Gro.drewN)), HF⟩
            case measure => simp [intOf]; omega
        · have e2 : (x.Frame.Name.toList == f.Name.toList) = false := by rw [str_eqb]; simp [c2]
          have HF := Lib.hid (all_snoc HX.out HT.out (by simp [isChild, eq_DFrame, c2]))
          clear c1 c2
          go_wp2_with (fail)
          go_roundw
          case rel => exact ⟨k + 1, by omega, by go_num, Lib.hid (by repeat (first | with_reducible exact Gro.refl _ | with_reducible exact Gro.refl_drew _ _ _ | with_reducible exact Gro.refl_drewN _ _ _ _ | assumption | with_reducible apply Gro.more | with_reducible apply Gro.alloc | with_reducible apply Gro.drew | with_reducible apply Gro.drewN)), HF⟩
          case measure => simp [intOf]; omega
      · have e1 : (x.Parent == p) = false := by simp [c1]
        have HF := Lib.hid (all_snoc HX.out HT.out (by simp [isChild, c1]))
        clear c1
        go_wp2_with (fail)
        go_roundw
        case rel => exact ⟨k + 1, by omega, by go_num, Lib.hid (by repeat (first | with_reducible exact Gro.refl _ | with_reducible exact Gro.refl_drew _ _ _ | with_reducible exact Gro.refl_drewN _ _ _ _ | assumption | with_reducible apply Gro.more | with_reducible apply Gro.alloc | with_reducible apply Gro.drew | with_reducible apply Gro.drewN)), HF⟩
        case measure => simp [intOf]; omega
    · have hje : k = ns.length := by omega
      subst hje
      have HF := Lib.hid (show childV ns p f = -1 from by unfold childV; rw [findIdx_no (by have := HT.out; rwa [List.take_length] at this)])
      go_wp2
      go_ret
      exact ⟨ret_int HF.out.symm, (by repeat (first | with_reducible exact Gro.refl _ | with_reducible exact Gro.refl_drew _ _ _ | with_reducible exact Gro.refl_drewN _ _ _ _ | assumption | with_reducible apply Gro.more | with_reducible apply Gro.alloc | with_reducible apply Gro.drew | with_reducible apply Gro.drewN))⟩
set_option maxRecDepth 100000 in
set_option maxHeartbeats 1000000 in
theorem child_s {ns : List DNode} {p : Int} {f : DFrame} {w : World} {A : Option Addr} {c : Nat} (hx : (tNode.sl 48).R w w.heap.size [.slice A ns.length c] ns) :
    Calls Tryz.prog 78 #[.agg #[.slice A ns.length c], .int .i64 p, .agg #[.string f.Name, .int .i64 f.Line]] w fun e w' => e = .returned (.int .i64 (childV ns p f)) ∧ Gro w w' := by
  obtain ⟨_, _, hv, h2, h3⟩ := sl_at hx
  injection hv with hA _ hc
  subst hA hc
  go_enter Tryz.func78, Tryz.ntmps78
  go_wp2_with (fail)
  go_loopw [7] (fun i wr => ∃ k : Nat, k ≤ ns.length ∧ i = .int .i64 k ∧ Hid (Gro ((w.alloc (.cells #[.slice A ns.length c] 26)).alloc (.cells #[.string f.Name, .int .i64 f.Line] 46)) wr) ∧ Hid ((ns.take k).all (fun y => !isChild p f y) = true)) (fun i _ => ns.length - (intOf i).toNat)
  case atStart => exact ⟨0, Nat.zero_le _, rfl, Gro.refl _, Lib.hid (by simp)⟩
  case round =>
    obtain ⟨k, hk, rfl, hG, HT⟩ := hrel
    obtain ⟨os, d, rfl⟩ := hG.out
    clear hG
    by_cases hlt : k < ns.length
    · obtain ⟨g, off, x, rfl, hgb, hxk, hx0, hx1, hx2, bx0, bx1, bx2⟩ := atNode hx hlt
      have HX := Lib.hid hxk
      clear hxk hx
      by_cases c1 : x.Parent = p
      · have e1 : (x.Parent == p) = true := by simp [c1]
        by_cases c2 : x.Frame.Name = f.Name
        · have e2 : (x.Frame.Name.toList == f.Name.toList) = true := by simp [c2]
          by_cases c3 : x.Frame.Line = f.Line
          · have e3 : (x.Frame.Line == f.Line) = true := by simp [c3]
            have HF := Lib.hid (show childV ns p f = k from by unfold childV; rw [findIdx_at HX.out HT.out (by simp [isChild, c1, eq_DFrame, c2, c3])])
            clear c1 c2 c3
            go_wp2_with (fail)
            go_quiet (fail)
            go_wp2
            go_ret
            exact ⟨ret_int HF.out.symm, (by repeat (first | with_reducible exact Gro.refl _ | with_reducible exact Gro.refl_drew _ _ _ | with_reducible exact Gro.refl_drewN _ _ _ _ | assumption | with_reducible apply Gro.more | with_reducible apply Gro.alloc | with_reducible apply Gro.drew | with_reducible apply Gro.drewN))⟩
          · have e3 : (x.Frame.Line == f.Line) = false := by simp [c3]
            have HF := Lib.hid (all_snoc HX.out HT.out (by simp [isChild, eq_DFrame, c3]))
            clear c1 c2 c3
            go_wp2_with (fail)
            go_quiet (fail)
            go_wp2
            go_roundw
            case rel => exact ⟨k + 1, by omega, by go_num, Lib.hid (by repeat (first | with_reducible exact Gro.refl _ | with_reducible exact Gro.refl_drew _ _ _ | with_reducible exact Gro.refl_drewN _ _ _ _ | assumption | with_reducible apply Gro.more | with_reducible apply Gro.alloc | with_reducible apply Gro.drew | with_reducible apply Gro.drewN)), HF⟩
            case measure => simp [intOf]; omega
        · have e2 : (x.Frame.Name.toList == f.Name.toList) = false := by rw [str_eqb]; simp [c2]
          have HF := Lib.hid (all_snoc HX.out HT.out (by simp [isChild, eq_DFrame, c2]))
          clear c1 c2
          go_wp2_with (fail)
          go_quiet (fail)
          go_wp2
          go_roundw
          case rel => exact ⟨k + 1, by omega, by go_num, Lib.hid (by repeat (first | with_reducible exact Gro.refl _ | with_reducible exact Gro.refl_drew _ _ _ | with_reducible exact Gro.refl_drewN _ _ _ _ | assumption | with_reducible apply Gro.more | with_reducible apply Gro.alloc | with_reducible apply Gro.drew | with_reducible apply Gro.drewN)), HF⟩
          case measure => simp [intOf]; omega
      · have e1 : (x.Parent == p) = false := by simp [c1]
        have HF := Lib.hid (all_snoc HX.out HT.out (by simp [isChild, c1]))
        clear c1
        go_wp2_with (fail)
        go_quiet (fail)
        go_wp2
        go_roundw
        case rel => exact ⟨k + 1, by omega, by go_num, Lib.hid (by repeat (first | with_reducible exact Gro.refl _ | with_reducible exact Gro.refl_drew _ _ _ | with_reducible exact Gro.refl_drewN _ _ _ _ | assumption | with_reducible apply Gro.more | with_reducible apply Gro.alloc | with_reducible apply Gro.drew | with_reducible apply Gro.drewN)), HF⟩
        case measure => simp [intOf]; omega
    · have hje : k = ns.length := by omega
      subst hje
      have HF := Lib.hid (show childV ns p f = -1 from by unfold childV; rw [findIdx_no (by have := HT.out; rwa [List.take_length] at this)])
      go_wp2
      go_ret
      exact ⟨ret_int HF.out.symm, (by repeat (first | with_reducible exact Gro.refl _ | with_reducible exact Gro.refl_drew _ _ _ | with_reducible exact Gro.refl_drewN _ _ _ _ | assumption | with_reducible apply Gro.more | with_reducible apply Gro.alloc | with_reducible apply Gro.drew | with_reducible apply Gro.drewN))⟩
end Go.Proofs.YtcomafmiclkmhaaGreatDoor
