/-
  DIFFERENCES: the counts of the reference, and DiffProfiles of the program.
-/
import Derived.Test.YtemeenondbdioaaDoorDiffLaw
import Derived.Test.YtemeenondbdioaaDoorEnts
import Derived.Test.YtemeenondbdioaaDoorEnts2
import Derived.BigQuiet
import Derived.Deep.RegionHeld3
import Derived.Deep.RegionLaw
import Derived.Deep.CutRange
set_option linter.unusedVariables false
set_option linter.unusedSimpArgs false
namespace Go.Proofs.YtemeenondbdioaaDoor
open Go.RowKit
set_option maxRecDepth 100000 in
set_option maxHeartbeats 2000000 in
theorem count_s {xs : List DEntry} {s : ByteArray} {w : World} {A : Option Addr} {c : Nat} (hx : (tEntry.sl 90).R w w.heap.size [.slice A xs.length c] xs) :
    Calls Tryd.prog 82 #[.slice A xs.length c, .string s] w fun e w' => e = .returned (.int .i64 (cntE xs s)) ∧ Gro w w' := by
  obtain ⟨_, _, hv, h1, h2⟩ := sl_at hx
  injection hv with q1 _ q2
  subst q1 q2
  go_enter Tryd.func82, Tryd.ntmps82
  go_wp2_with (fail)
  go_loopw [5] (fun i wr => ∃ k : Nat, k ≤ xs.length ∧ i = .int .i64 k ∧ Hid (Gro w wr) ∧ Hid (cntE (xs.drop k) s = cntE xs s)) (fun i _ => xs.length - (intOf i).toNat)
  case atStart => exact ⟨0, Nat.zero_le _, rfl, Gro.refl _, Lib.hid (by simp)⟩
  case round =>
    obtain ⟨k, hk, rfl, hG, HT⟩ := hrel
    obtain ⟨os, d, rfl⟩ := hG.out
    clear hG
    by_cases hlt : k < xs.length
    · obtain ⟨g, off, x, rfl, hgb, hxk, hx0, hx1, bx0, bx1⟩ := atEntry hx hlt
      have HX := Lib.hid (show xs.drop k = x :: xs.drop (k + 1) from by
        obtain ⟨hl, rfl⟩ := List.getElem?_eq_some_iff.1 hxk
        exact List.drop_eq_getElem_cons hl)
      have hi1 : (k : Int) < (xs.length : Int) := by omega
      clear hxk hx
      by_cases hs : x.Stack = s
      · have hsb : (x.Stack.toList == s.toList) = true := by rw [str_eqb]; simp [hs]
        have HR := Lib.hid (show cntE xs s = x.Count from by rw [← HT.out, HX.out, cntE, if_pos hs])
        clear hs
        go_wp2
        go_ret
        exact ⟨ret_int HR.out.symm, (by repeat (first | with_reducible exact Gro.refl _ | with_reducible exact Gro.refl_drew _ _ _ | with_reducible exact Gro.refl_drewN _ _ _ _ | assumption | with_reducible apply Gro.more | with_reducible apply Gro.alloc | with_reducible apply Gro.drew | with_reducible apply Gro.drewN))⟩
      · have hsb : (x.Stack.toList == s.toList) = false := by rw [str_eqb]; simp [hs]
        have HR := Lib.hid (show cntE (xs.drop (k + 1)) s = cntE xs s from by rw [← HT.out, HX.out, cntE, if_neg hs])
        clear hs
        go_wp2
        go_roundw
        case rel => exact ⟨k + 1, by omega, by go_num, Lib.hid (by repeat (first | with_reducible exact Gro.refl _ | with_reducible exact Gro.refl_drew _ _ _ | with_reducible exact Gro.refl_drewN _ _ _ _ | assumption | with_reducible apply Gro.more | with_reducible apply Gro.alloc | with_reducible apply Gro.drew | with_reducible apply Gro.drewN)), HR⟩
        case measure => simp [intOf]; omega
    · have hke : k = xs.length := by omega
      subst hke
      have HR := Lib.hid (show cntE xs s = 0 from by rw [← HT.out]; simp [cntE])
      go_wp2
      go_ret
      exact ⟨ret_int HR.out.symm, (by repeat (first | with_reducible exact Gro.refl _ | with_reducible exact Gro.refl_drew _ _ _ | with_reducible exact Gro.refl_drewN _ _ _ _ | assumption | with_reducible apply Gro.more | with_reducible apply Gro.alloc | with_reducible apply Gro.drew | with_reducible apply Gro.drewN))⟩
theorem cntE_bound {w : World} {B : Nat} {A : Option Addr} {c n : Nat} {xs : List DEntry} (hx : (tEntry.sl 90).R w B [.slice A n c] xs) (s : ByteArray) : I64 (cntE xs s) := by
  have h : ∀ l : List DEntry, (∀ e ∈ l, I64 e.Count) → I64 (cntE l s) := by
    intro l
    induction l with
    | nil => intro _; exact (show I64 0 from ⟨by decide, by decide⟩)
    | cons e l ih =>
      intro hl
      rw [cntE]
      split
      · exact hl e List.mem_cons_self
      · exact ih fun e he => hl e (List.mem_cons_of_mem _ he)
  refine h xs fun e he => ?_
  obtain ⟨k, hk, rfl⟩ := List.getElem_of_mem he
  obtain ⟨_, _, x, _, _, hxk, _, _, _, b⟩ := atEntry hx hk
  rw [List.getElem?_eq_getElem hk] at hxk
  cases hxk
  exact b
end Go.Proofs.YtemeenondbdioaaDoor
