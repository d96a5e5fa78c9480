/-
  STACKS: NameOk, frameOk, StacksOk, child, FindStack, copyStacks of the program and of the reference: what they compute.
-/
import Derived.Test.YtbhobjepjaeffaaFnProfile
import Derived.Test.YtbhobjepjaeffaaAppend
set_option linter.unusedVariables false
set_option linter.unusedSimpArgs false
namespace Go.Proofs.Ytbhobjepjaeffaa
open Go.RowKit
def isLow (c : UInt8) : Bool := decide (97 ≤ (c.toNat : Int)) && decide ((c.toNat : Int) ≤ 122)
def nameOk (s : ByteArray) : Bool := s.data.toList.all isLow && btw s.size 1 8
def frameOk (f : DFrame) : Bool := nameOk f.Name && btw f.Line 0 59
theorem nameOk_size {s : ByteArray} (h : nameOk s = true) : 1 ≤ s.size ∧ s.size ≤ 8 := by
  unfold nameOk at h
  simp only [Bool.and_eq_true, btw_iff] at h
  omega
theorem bytes_snoc (s : ByteArray) (k : Nat) (h : k < s.size) : s.data.toList.take (k + 1) = s.data.toList.take k ++ [s[k]] := by
  rw [List.take_succ_eq_append_getElem (by simpa using h)]; rfl
theorem bytes_get (s : ByteArray) (k : Nat) (h : k < s.size) : s.data.toList[k]? = some s[k] := by
  rw [List.getElem?_eq_getElem (by simpa using h)]; rfl
theorem all_snoc {α : Type} {xs : List α} {f : α → Bool} {j : Nat} {x : α} (h : xs[j]? = some x) (ha : (xs.take j).all f = true) (hf : f x = true) : (xs.take (j + 1)).all f = true := by
  rw [take_snoc h, List.all_append, ha]
  simp [hf]
theorem all_not {α : Type} {xs : List α} {f : α → Bool} {j : Nat} {x : α} (h : xs[j]? = some x) (hf : f x = false) : xs.all f = false := by
  rw [List.all_eq_false]
  exact ⟨x, List.mem_of_getElem? h, by simp [hf]⟩
theorem nameOk_i (s : ByteArray) (w : World) (hs : s.size ≤ 9223372036854775807) : Calls Try.prog 112 #[.string s] w fun e w' => e = .returned (.bool (nameOk s)) ∧ w = w' := by
  go_enter Try.func112, Try.ntmps112
  go_wp2_with (fail)
  go_loop [3] (fun i => ∃ k : Nat, k ≤ s.size ∧ i = .int .i64 k ∧ Hid ((s.data.toList.take k).all isLow = true)) (fun i => s.size - (intOf i).toNat)
  case atStart => exact ⟨0, Nat.zero_le _, rfl, Lib.hid (by simp)⟩
  case round =>
    obtain ⟨k, hk, rfl, ha⟩ := hrel
    by_cases hlt : k < s.size
    · have HX := Lib.hid (bytes_get s k hlt)
      by_cases h1 : 97 ≤ (s[k].toNat : Int)
      · by_cases h2 : (s[k].toNat : Int) ≤ 122
        · go_wp2
          go_round
          case rel => exact ⟨k + 1, by omega, by go_num, Lib.hid (all_snoc HX.out ha.out (by simp only [isLow, Bool.and_eq_true, decide_eq_true_eq]; exact ⟨h1, h2⟩))⟩
          case measure => simp [intOf]; omega
        · have HF := Lib.hid (all_not (f := isLow) HX.out (by simp only [isLow, Bool.and_eq_false_iff, decide_eq_false_iff_not]; exact .inr h2))
          go_wp2
          go_ret
          exact ⟨ret_bool (by unfold nameOk; rw [HF.out]; rfl), rfl⟩
      · have HF := Lib.hid (all_not (f := isLow) HX.out (by simp only [isLow, Bool.and_eq_false_iff, decide_eq_false_iff_not]; exact .inl h1))
        go_wp2
        go_ret
        exact ⟨ret_bool (by unfold nameOk; rw [HF.out]; rfl), rfl⟩
    · have hje : k = s.size := by omega
      subst hje
      have HA := Lib.hid (show nameOk s = btw s.size 1 8 from by unfold nameOk; rw [← List.take_length (l := s.data.toList)]; have := ha.out; rw [show s.size = s.data.toList.length from by rw [Array.length_toList]; rfl] at this; rw [this]; rfl)
      clear ha
      go_wp2_with (first | (go_at_call 48; (with_reducible refine (in_i _ _ _ _).mono ?_); rintro e w1 ⟨rfl, rfl⟩))
      go_ret
      exact ⟨ret_bool HA.out.symm, rfl⟩
theorem nameOk_s (s : ByteArray) (w : World) (hs : s.size ≤ 9223372036854775807) : Calls Try.prog 110 #[.string s] w fun e w' => e = .returned (.bool (nameOk s)) ∧ w = w' := by
  go_enter Try.func110, Try.ntmps110
  go_wp2_with (fail)
  go_loop [3] (fun i => ∃ k : Nat, k ≤ s.size ∧ i = .int .i64 k ∧ Hid ((s.data.toList.take k).all isLow = true)) (fun i => s.size - (intOf i).toNat)
  case atStart => exact ⟨0, Nat.zero_le _, rfl, Lib.hid (by simp)⟩
  case round =>
    obtain ⟨k, hk, rfl, ha⟩ := hrel
    by_cases hlt : k < s.size
    · have HX := Lib.hid (bytes_get s k hlt)
      by_cases h1 : 97 ≤ (s[k].toNat : Int)
      · by_cases h2 : (s[k].toNat : Int) ≤ 122
        · go_wp2
          go_round
          case rel => exact ⟨k + 1, by omega, by go_num, Lib.hid (all_snoc HX.out ha.out (by simp only [isLow, Bool.and_eq_true, decide_eq_true_eq]; exact ⟨h1, h2⟩))⟩
          case measure => simp [intOf]; omega
        · have HF := Lib.hid (all_not (f := isLow) HX.out (by simp only [isLow, Bool.and_eq_false_iff, decide_eq_false_iff_not]; exact .inr h2))
          go_wp2
          go_ret
          exact ⟨ret_bool (by unfold nameOk; rw [HF.out]; rfl), rfl⟩
      · have HF := Lib.hid (all_not (f := isLow) HX.out (by simp only [isLow, Bool.and_eq_false_iff, decide_eq_false_iff_not]; exact .inl h1))
        go_wp2
        go_ret
        exact ⟨ret_bool (by unfold nameOk; rw [HF.out]; rfl), rfl⟩
    · have hje : k = s.size := by omega
      subst hje
      have HA := Lib.hid (show nameOk s = btw s.size 1 8 from by unfold nameOk; rw [← List.take_length (l := s.data.toList)]; have := ha.out; rw [show s.size = s.data.toList.length from by rw [Array.length_toList]; rfl] at this; rw [this]; rfl)
      clear ha
      go_wp2_with (first | (go_at_call 44; (with_reducible refine (in_s _ _ _ _).mono ?_); rintro e w1 ⟨rfl, rfl⟩))
      go_ret
      exact ⟨ret_bool HA.out.symm, rfl⟩
def nodeOk (ns : List DNode) (k : Nat) : Bool := match ns[k]? with
  | some x => btw x.Parent (-1) ((k : Int) - 1) && (frameOk x.Frame && (ns.take k).all (fun y => decide (y ≠ x)))
  | none => true
def stacksOk (t : DStacks) : Bool := (List.range t.Nodes.length).all (nodeOk t.Nodes)
theorem range_snoc {k : Nat} {f : Nat → Bool} (h : (List.range k).all f = true) (hf : f k = true) : (List.range (k + 1)).all f = true := by
  rw [List.range_succ, List.all_append, h]
  simp [hf]
theorem range_not {k n : Nat} {f : Nat → Bool} (h : k < n) (hf : f k = false) : (List.range n).all f = false := by
  rw [List.all_eq_false]
  exact ⟨k, List.mem_range.2 h, by simp [hf]⟩
def isChild (p : Int) (f : DFrame) (x : DNode) : Bool := decide (x.Parent = p) && decide (x.Frame = f)
def childV (ns : List DNode) (p : Int) (f : DFrame) : Int := match ns.findIdx? (isChild p f) with
  | some i => i
  | none => -1
theorem findIdx_at {α : Type} {f : α → Bool} {xs : List α} {k : Nat} {x : α} (h : xs[k]? = some x) (ha : (xs.take k).all (fun y => !f y) = true) (hf : f x = true) : xs.findIdx? f = some k := by
  induction xs generalizing k with
  | nil => simp at h
  | cons y ys ih =>
    cases k with
    | zero =>
      simp at h
      subst h
      simp [List.findIdx?_cons, hf]
    | succ k =>
      simp only [List.getElem?_cons_succ] at h
      simp only [List.take_succ_cons, List.all_cons, Bool.and_eq_true] at ha
      have hy : f y = false := by simpa using ha.1
      rw [List.findIdx?_cons, hy, ih h ha.2]
      simp
theorem findIdx_no {α : Type} {f : α → Bool} {xs : List α} (ha : xs.all (fun y => !f y) = true) : xs.findIdx? f = none := by
  rw [List.findIdx?_eq_none_iff]
  intro x hx
  have := List.all_eq_true.1 ha x hx
  simpa using this
theorem child_lt {ns : List DNode} {p : Int} {f : DFrame} : -1 ≤ childV ns p f ∧ childV ns p f < ns.length := by
  unfold childV
  split
  · rename_i i h
    have := (List.findIdx?_eq_some_iff_getElem.1 h).1
    omega
  · omega
end Go.Proofs.Ytbhobjepjaeffaa
