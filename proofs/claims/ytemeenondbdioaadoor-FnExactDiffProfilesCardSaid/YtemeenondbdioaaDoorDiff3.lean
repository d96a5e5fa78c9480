/-
  DIFFERENCES, PART 3: DiffProfiles of the program.
-/
import Derived.Test.YtemeenondbdioaaDoorDiff
import Derived.Test.YtemeenondbdioaaDoorBox5
set_option linter.unusedVariables false
set_option linter.unusedSimpArgs false
namespace Go.Proofs.YtemeenondbdioaaDoor
open Go.RowKit
theorem wp_gen3 {P : Program} {C : Code} {Q : Exit → Act → World → Prop} {a : Act} {W0 : World} (F : World → Prop) (h : F W0) (k : ∀ W, F W → Code.wp P C Q a W) : Code.wp P C Q a W0 := k W0 h
def slLen3 : Value → Nat
  | .slice _ n _ => n
  | _ => 0
set_option maxRecDepth 100000 in
set_option maxHeartbeats 16000000 in
theorem diff_i {p q : DProfile} {w : World} {A0 A1 A2 A3 : Option Addr} {c0 c1 c2 c3 : Nat} (hx : (tNode.sl 126).R w w.heap.size [.slice A0 p.Stacks.Nodes.length c0] p.Stacks.Nodes) (hy : (intT.sl 3).R w w.heap.size [.slice A1 p.Counts.length c1] p.Counts) (hn : p.Stacks.Nodes.length ≤ 549755813888)
    (hz : (tNode.sl 126).R w w.heap.size [.slice A2 q.Stacks.Nodes.length c2] q.Stacks.Nodes) (hu : (intT.sl 3).R w w.heap.size [.slice A3 q.Counts.length c3] q.Counts) (hm : q.Stacks.Nodes.length ≤ 549755813888) :
    Calls Tryd.prog 36 #[.agg #[.slice A0 p.Stacks.Nodes.length c0, .slice A1 p.Counts.length c1], .agg #[.slice A2 q.Stacks.Nodes.length c2, .slice A3 q.Counts.length c3]] w (RetSl tDelta 106 (diffsOf p q) w) := by
  cases hp : profileOk p
  · have HR := Lib.hid (show diffsOf p q = [] from by simp [diffsOf, hp])
    have HP := Lib.hid hp
    clear hp
    go_enter Tryd.func36, Tryd.ntmps36
    go_wp2_with (go_at_call 64; (with_reducible refine (profileOk_i (p := p) (Ty.up _ hx (by repeat (first | with_reducible exact Gro.refl _ | with_reducible exact Gro.refl_drew _ _ _ | with_reducible exact Gro.refl_drewN _ _ _ _ | assumption | with_reducible apply Gro.more | with_reducible apply Gro.alloc | with_reducible apply Gro.drew | with_reducible apply Gro.drewN))) (Ty.up _ hy (by repeat (first | with_reducible exact Gro.refl _ | with_reducible exact Gro.refl_drew _ _ _ | with_reducible exact Gro.refl_drewN _ _ _ _ | assumption | with_reducible apply Gro.more | with_reducible apply Gro.alloc | with_reducible apply Gro.drew | with_reducible apply Gro.drewN)))).mono ?_); rw [HP.out]; rintro e w1 ⟨rfl, os1p, d1p, rfl⟩)
    go_ret
    rw [HR.out]
    exact ⟨none, 0, rfl, fresh_nil _ _, (by repeat (first | with_reducible exact Gro.refl _ | with_reducible exact Gro.refl_drew _ _ _ | with_reducible exact Gro.refl_drewN _ _ _ _ | assumption | with_reducible apply Gro.more | with_reducible apply Gro.alloc | with_reducible apply Gro.drew | with_reducible apply Gro.drewN))⟩
  cases hq : profileOk q
  · have HR := Lib.hid (show diffsOf p q = [] from by simp [diffsOf, hp, hq])
    have HP := Lib.hid hp
    have HQ := Lib.hid hq
    clear hp hq
    go_enter Tryd.func36, Tryd.ntmps36
    go_wp2_with (first
      | (go_at_call 64; (with_reducible refine (profileOk_i (p := p) (Ty.up _ hx (by repeat (first | with_reducible exact Gro.refl _ | with_reducible exact Gro.refl_drew _ _ _ | with_reducible exact Gro.refl_drewN _ _ _ _ | assumption | with_reducible apply Gro.more | with_reducible apply Gro.alloc | with_reducible apply Gro.drew | with_reducible apply Gro.drewN))) (Ty.up _ hy (by repeat (first | with_reducible exact Gro.refl _ | with_reducible exact Gro.refl_drew _ _ _ | with_reducible exact Gro.refl_drewN _ _ _ _ | assumption | with_reducible apply Gro.more | with_reducible apply Gro.alloc | with_reducible apply Gro.drew | with_reducible apply Gro.drewN)))).mono ?_); rw [HP.out]; rintro e w1 ⟨rfl, os1p, d1p, rfl⟩)
      | (go_at_call 64; (with_reducible refine (profileOk_i (p := q) (Ty.up _ hz (by repeat (first | with_reducible exact Gro.refl _ | with_reducible exact Gro.refl_drew _ _ _ | with_reducible exact Gro.refl_drewN _ _ _ _ | assumption | with_reducible apply Gro.more | with_reducible apply Gro.alloc | with_reducible apply Gro.drew | with_reducible apply Gro.drewN))) (Ty.up _ hu (by repeat (first | with_reducible exact Gro.refl _ | with_reducible exact Gro.refl_drew _ _ _ | with_reducible exact Gro.refl_drewN _ _ _ _ | assumption | with_reducible apply Gro.more | with_reducible apply Gro.alloc | with_reducible apply Gro.drew | with_reducible apply Gro.drewN)))).mono ?_); rw [HQ.out]; rintro e w1 ⟨rfl, os1q, d1q, rfl⟩))
    go_ret
    rw [HR.out]
    exact ⟨none, 0, rfl, fresh_nil _ _, (by repeat (first | with_reducible exact Gro.refl _ | with_reducible exact Gro.refl_drew _ _ _ | with_reducible exact Gro.refl_drewN _ _ _ _ | assumption | with_reducible apply Gro.more | with_reducible apply Gro.alloc | with_reducible apply Gro.drew | with_reducible apply Gro.drewN))⟩
  have HR := Lib.hid (show diffsOf p q = mergeD (entriesOf p) (entriesOf q) from by simp only [diffsOf, hp, hq, Bool.and_self, if_true])
  have HP := Lib.hid hp
  have HQ := Lib.hid hq
  have hpl := Nat.le_of_eq (pOk_len hp)
  have hql := Nat.le_of_eq (pOk_len hq)
  have hlx := entriesOf_len p
  have hly := entriesOf_len q
  clear hp hq
  go_enter Tryd.func36, Tryd.ntmps36
  go_wp2_with (first
    | (go_at_call 64; (with_reducible refine (profileOk_i (p := p) (Ty.up _ hx (by repeat (first | with_reducible exact Gro.refl _ | with_reducible exact Gro.refl_drew _ _ _ | with_reducible exact Gro.refl_drewN _ _ _ _ | assumption | with_reducible apply Gro.more | with_reducible apply Gro.alloc | with_reducible apply Gro.drew | with_reducible apply Gro.drewN))) (Ty.up _ hy (by repeat (first | with_reducible exact Gro.refl _ | with_reducible exact Gro.refl_drew _ _ _ | with_reducible exact Gro.refl_drewN _ _ _ _ | assumption | with_reducible apply Gro.more | with_reducible apply Gro.alloc | with_reducible apply Gro.drew | with_reducible apply Gro.drewN)))).mono ?_); rw [HP.out]; rintro e w1 ⟨rfl, os1p, d1p, rfl⟩)
    | (go_at_call 64; (with_reducible refine (profileOk_i (p := q) (Ty.up _ hz (by repeat (first | with_reducible exact Gro.refl _ | with_reducible exact Gro.refl_drew _ _ _ | with_reducible exact Gro.refl_drewN _ _ _ _ | assumption | with_reducible apply Gro.more | with_reducible apply Gro.alloc | with_reducible apply Gro.drew | with_reducible apply Gro.drewN))) (Ty.up _ hu (by repeat (first | with_reducible exact Gro.refl _ | with_reducible exact Gro.refl_drew _ _ _ | with_reducible exact Gro.refl_drewN _ _ _ _ | assumption | with_reducible apply Gro.more | with_reducible apply Gro.alloc | with_reducible apply Gro.drew | with_reducible apply Gro.drewN)))).mono ?_); rw [HQ.out]; rintro e w1 ⟨rfl, os1q, d1q, rfl⟩))
  go_region_held3 (fun w' => w'.cell? ⟨w.heap.size, 0, none⟩ = some (.slice A0 p.Stacks.Nodes.length c0) ∧ w'.cell? ⟨w.heap.size, 1, none⟩ = some (.slice A1 p.Counts.length c1) ∧ w'.cell? ⟨w.heap.size + 1, 0, none⟩ = some (.slice A2 q.Stacks.Nodes.length c2) ∧ w'.cell? ⟨w.heap.size + 1, 1, none⟩ = some (.slice A3 q.Counts.length c3)) ((repeat' apply And.intro) <;> (first | ((repeat (first | assumption | with_reducible refine gro_keeps ?_ _ _ | with_reducible refine alloc_keeps ?_ _ | with_reducible refine drew_keeps ?_)); done) | (simp [go_sem]; done))) (first
    | (go_at_call 22; (with_reducible refine (entriesOf_i (p := p) (Ty.up _ hx (by repeat (first | with_reducible exact Gro.refl _ | with_reducible exact Gro.refl_drew _ _ _ | with_reducible exact Gro.refl_drewN _ _ _ _ | assumption | with_reducible apply Gro.more | with_reducible apply Gro.alloc | with_reducible apply Gro.drew | with_reducible apply Gro.drewN))) (Ty.up _ hy (by repeat (first | with_reducible exact Gro.refl _ | with_reducible exact Gro.refl_drew _ _ _ | with_reducible exact Gro.refl_drewN _ _ _ _ | assumption | with_reducible apply Gro.more | with_reducible apply Gro.alloc | with_reducible apply Gro.drew | with_reducible apply Gro.drewN))) (by omega)).mono ?_); rintro e w3 ⟨B3, b3, rfl, hF3, os3, d3, rfl⟩)
    | (go_at_call 22; (with_reducible refine (entriesOf_i (p := q) (Ty.up _ hz (by repeat (first | with_reducible exact Gro.refl _ | with_reducible exact Gro.refl_drew _ _ _ | with_reducible exact Gro.refl_drewN _ _ _ _ | assumption | with_reducible apply Gro.more | with_reducible apply Gro.alloc | with_reducible apply Gro.drew | with_reducible apply Gro.drewN))) (Ty.up _ hu (by repeat (first | with_reducible exact Gro.refl _ | with_reducible exact Gro.refl_drew _ _ _ | with_reducible exact Gro.refl_drewN _ _ _ _ | assumption | with_reducible apply Gro.more | with_reducible apply Gro.alloc | with_reducible apply Gro.drew | with_reducible apply Gro.drewN))) (by omega)).mono ?_); rintro e w3 ⟨B4, b4, rfl, hF4, os4, d4, rfl⟩))
  go_wp2_with (fail)
  refine wp_gen3 (fun W => Hid (Gro w W) ∧ Hid ((tEntry.sl 90).R W W.heap.size [.slice B3 (entriesOf p).length b3] (entriesOf p)) ∧ Hid ((tEntry.sl 90).R W W.heap.size [.slice B4 (entriesOf q).length b4] (entriesOf q)) ∧ Hid (EmpFr tDelta 106 W (w.heap.size + 1 + 1 + os1p.size + os1q.size + os3.size + os4.size) W (some ⟨(w.heap.size + 1 + 1 + os1p.size + os1q.size + os3.size + os4.size), 0, none⟩) 0 0 [])) ⟨Lib.hid (by repeat (first | with_reducible exact Gro.refl _ | with_reducible exact Gro.refl_drew _ _ _ | with_reducible exact Gro.refl_drewN _ _ _ _ | assumption | with_reducible apply Gro.more | with_reducible apply Gro.alloc | with_reducible apply Gro.drew | with_reducible apply Gro.drewN)), Lib.hid (Ty.up _ hF3.read (by repeat (first | with_reducible exact Gro.refl _ | with_reducible exact Gro.refl_drew _ _ _ | with_reducible exact Gro.refl_drewN _ _ _ _ | assumption | with_reducible apply Gro.more | with_reducible apply Gro.alloc | with_reducible apply Gro.drew | with_reducible apply Gro.drewN))), Lib.hid (Ty.up _ hF4.read (by repeat (first | with_reducible exact Gro.refl _ | with_reducible exact Gro.refl_drew _ _ _ | with_reducible exact Gro.refl_drewN _ _ _ _ | assumption | with_reducible apply Gro.more | with_reducible apply Gro.alloc | with_reducible apply Gro.drew | with_reducible apply Gro.drewN))), Lib.hid (EmpFr.start (by repeat (first | with_reducible exact Gro.refl _ | with_reducible exact Gro.refl_drew _ _ _ | with_reducible exact Gro.refl_drewN _ _ _ _ | assumption | with_reducible apply Gro.more | with_reducible apply Gro.alloc | with_reducible apply Gro.drew | with_reducible apply Gro.drewN)) (by simp))⟩ ?_
  clear hx hy hz hu hF3 hF4
  rintro W ⟨HG, HX0, HY0, HO⟩
  have hgw : w.heap.size ≤ (w.heap.size + 1 + 1 + os1p.size + os1q.size + os3.size + os4.size) := by omega
  generalize (w.heap.size + 1 + 1 + os1p.size + os1q.size + os3.size + os4.size) = g0 at HO hgw ⊢
  go_loopw [5, 6, 7] (fun a b o wr => ∃ (xs ys : List DEntry) (acc : List DDelta) (Ax Ay A : Option Addr) (cx cy c : Nat), a = .slice Ax xs.length cx ∧ b = .slice Ay ys.length cy ∧ o = .slice A acc.length c ∧ acc.length + xs.length + ys.length ≤ (entriesOf p).length + (entriesOf q).length ∧ Hid (acc ++ mergeD xs ys = mergeD (entriesOf p) (entriesOf q)) ∧ Hid ((tEntry.sl 90).R W W.heap.size [.slice Ax xs.length cx] xs) ∧ Hid ((tEntry.sl 90).R W W.heap.size [.slice Ay ys.length cy] ys) ∧ Hid (Gro W wr) ∧ Hid (EmpFr tDelta 106 W g0 wr A acc.length c acc)) (fun a b _ _ => slLen3 a + slLen3 b)
  case atStart => exact ⟨entriesOf p, entriesOf q, [], _, _, _, _, _, 0, rfl, rfl, rfl, by simp, Lib.hid (by simp), HX0, HY0, Lib.hid (by repeat (first | with_reducible exact Gro.refl _ | with_reducible exact Gro.refl_drew _ _ _ | with_reducible exact Gro.refl_drewN _ _ _ _ | assumption | with_reducible apply Gro.more | with_reducible apply Gro.alloc | with_reducible apply Gro.drew | with_reducible apply Gro.drewN)), HO⟩
  case round =>
    obtain ⟨xs, ys, acc, Ax, Ay, A, cx, cy, c, rfl, rfl, rfl, hN, HT, HX, HY, hG, hF⟩ := hrel
    obtain ⟨os, d, rfl⟩ := hG.out
    clear hG
    by_cases hxl : 0 < xs.length
    · obtain ⟨g1, off1, a, rfl, hgb1, hak, ha0, ha1, ba0, ba1⟩ := atEntry HX.out (k := 0) (by omega); simp only [Nat.zero_mul, Nat.add_zero] at ha0 ha1; have hxsi : (0 : Int) < (xs.length : Int) := by omega
      have HXC := Lib.hid (show xs = a :: xs.drop 1 from by have := drop_at hak; simpa using this)
      obtain ⟨Bx, hslx, hRx⟩ := run_from elEntry HX.out (k := 1) (by omega); simp only [show ((1 : Nat) : Int) = 1 from rfl] at hslx
      have hxd : decide ((0 : Int) < (xs.length : Int)) = true := by simp; omega
      have hx0 : ((xs.length : Int) == 0) = false := beq_eq_false_iff_ne.2 (by omega)
      clear hak
      by_cases hyl : 0 < ys.length
      · obtain ⟨g2, off2, b, rfl, hgb2, hbk, hb0, hb1, bb0, bb1⟩ := atEntry HY.out (k := 0) (by omega); simp only [Nat.zero_mul, Nat.add_zero] at hb0 hb1; have hysi : (0 : Int) < (ys.length : Int) := by omega
        have HYC := Lib.hid (show ys = b :: ys.drop 1 from by have := drop_at hbk; simpa using this)
        obtain ⟨By, hsly, hRy⟩ := run_from elEntry HY.out (k := 1) (by omega); simp only [show ((1 : Nat) : Int) = 1 from rfl] at hsly
        have hy0 : ((ys.length : Int) == 0) = false := beq_eq_false_iff_ne.2 (by omega)
        clear hbk
        cases hab : Op.bytesLess a.Stack.toList b.Stack.toList
        · cases hba : Op.bytesLess b.Stack.toList a.Stack.toList
          · have HM := Lib.hid (show mergeD xs ys = pre ⟨a.Stack, a.Count, b.Count⟩ (mergeD (xs.drop 1) (ys.drop 1)) from by
              conv => lhs; rw [HXC.out, HYC.out]
              rw [mergeD, if_neg (show ¬ bl a.Stack < bl b.Stack from bytes_nlt hab), if_neg (show ¬ bl b.Stack < bl a.Stack from bytes_nlt hba)])
            have HMM := Lib.hid (show acc ++ pre ⟨a.Stack, a.Count, b.Count⟩ (mergeD (xs.drop 1) (ys.drop 1)) = mergeD (entriesOf p) (entriesOf q) from by rw [← HM.out]; exact HT.out)
            by_cases hne : a.Count = b.Count
            · have hnb : (a.Count == b.Count) = true := by simp [hne]
              have HT2 := Lib.hid (show acc ++ mergeD (xs.drop 1) (ys.drop 1) = mergeD (entriesOf p) (entriesOf q) from by rw [← HMM.out, pre, if_neg (fun k => k hne)])
              clear hne
              go_wp2_with (fail)
              go_quiet (fail)
              go_wp2_with (fail)
              go_quiet (fail)
              go_wp2_with (fail)
              go_region
              all_goals go_wp2_with (fail)
              all_goals go_quiet (fail)
              all_goals go_wp2_with (fail)
              all_goals go_roundw
              all_goals try (case measure => simp [slLen3]; omega)
              all_goals exact ⟨xs.drop 1, ys.drop 1, acc, Bx, By, A, cx - 1, cy - 1, c, by simp, by simp, rfl, by simp; omega, HT2, Lib.hid (by simpa using hRx), Lib.hid (by simpa using hRy), Lib.hid (by repeat (first | with_reducible exact Gro.refl _ | with_reducible exact Gro.refl_drew _ _ _ | with_reducible exact Gro.refl_drewN _ _ _ _ | assumption | with_reducible apply Gro.more | with_reducible apply Gro.alloc | with_reducible apply Gro.drew | with_reducible apply Gro.drewN)), Lib.hid (hF.out.gro (by repeat (first | with_reducible exact Gro.refl _ | with_reducible exact Gro.refl_drew _ _ _ | with_reducible exact Gro.refl_drewN _ _ _ _ | assumption | with_reducible apply Gro.more | with_reducible apply Gro.alloc | with_reducible apply Gro.drew | with_reducible apply Gro.drewN)))⟩
            · have hnb : (a.Count == b.Count) = false := by simp [hne]
              have HT2 := Lib.hid (show (acc ++ [⟨a.Stack, a.Count, b.Count⟩]) ++ mergeD (xs.drop 1) (ys.drop 1) = mergeD (entriesOf p) (entriesOf q) from by rw [← HMM.out, pre, if_pos hne]; simp)
              clear hne
              go_wp2_with (fail)
              go_quiet (fail)
              go_wp2_with (fail)
              go_quiet (fail)
              go_wp2_with (fail)
              go_region
              all_goals go_wp2_with (fail)
              all_goals go_quiet (fail)
              all_goals go_wp2_with (at_builtin; go_must (refine wpList_append_eone (W0 := W) (L := acc.length + 1) rfl (.tmp 108) (.tmp 110) elDelta flatDelta (hF.out.gro (by repeat (first | with_reducible exact Gro.refl _ | with_reducible exact Gro.refl_drew _ _ _ | with_reducible exact Gro.refl_drewN _ _ _ _ | assumption | with_reducible apply Gro.more | with_reducible apply Gro.alloc | with_reducible apply Gro.drew | with_reducible apply Gro.drewN))) (by repeat (first | with_reducible exact Gro.refl _ | with_reducible exact Gro.refl_drew _ _ _ | with_reducible exact Gro.refl_drewN _ _ _ _ | assumption | with_reducible apply Gro.more | with_reducible apply Gro.alloc | with_reducible apply Gro.drew | with_reducible apply Gro.drewN)) (W1 := w) (B := 0) (ec := [.string a.Stack, .int .i64 a.Count, .int .i64 b.Count]) (y := ⟨a.Stack, a.Count, b.Count⟩) (tDelta_mkR (x := ⟨a.Stack, a.Count, b.Count⟩) ba0 ba1 bb1) rfl rfl rfl (by simp) (by intro j u hu; simpa [go_sem] using hu) rfl (by omega) (by omega) ?_); intro D2 e2 os4 d4 hF4)
              all_goals go_roundw
              all_goals try (case measure => simp [slLen3]; omega)
              all_goals exact ⟨xs.drop 1, ys.drop 1, acc ++ [⟨a.Stack, a.Count, b.Count⟩], Bx, By, D2, cx - 1, cy - 1, e2, by simp, by simp, by simp, by simp; omega, HT2, Lib.hid (by simpa using hRx), Lib.hid (by simpa using hRy), Lib.hid (by repeat (first | with_reducible exact Gro.refl _ | with_reducible exact Gro.refl_drew _ _ _ | with_reducible exact Gro.refl_drewN _ _ _ _ | assumption | with_reducible apply Gro.more | with_reducible apply Gro.alloc | with_reducible apply Gro.drew | with_reducible apply Gro.drewN)), Lib.hid (.inr (by simpa using hF4))⟩
          · have HM := Lib.hid (show mergeD xs ys = pre ⟨b.Stack, 0, b.Count⟩ (mergeD xs (ys.drop 1)) from by
              conv => lhs; rw [HXC.out, HYC.out]
              rw [mergeD, if_neg (show ¬ bl a.Stack < bl b.Stack from bytes_nlt hab), if_pos (show bl b.Stack < bl a.Stack from bytes_lt hba), ← HXC.out])
            have HMM := Lib.hid (show acc ++ pre ⟨b.Stack, 0, b.Count⟩ (mergeD (xs) (ys.drop 1)) = mergeD (entriesOf p) (entriesOf q) from by rw [← HM.out]; exact HT.out)
            by_cases hne : 0 = b.Count
            · have hnb : (0 == b.Count) = true := by simp [hne]
              have HT2 := Lib.hid (show acc ++ mergeD (xs) (ys.drop 1) = mergeD (entriesOf p) (entriesOf q) from by rw [← HMM.out, pre, if_neg (fun k => k hne)])
              clear hne
              go_wp2_with (fail)
              go_quiet (fail)
              go_wp2_with (fail)
              go_quiet (fail)
              go_wp2_with (fail)
              go_region
              all_goals go_wp2_with (fail)
              all_goals go_roundw
              all_goals try (case measure => simp [slLen3]; omega)
              all_goals exact ⟨xs, ys.drop 1, acc, _, By, A, cx, cy - 1, c, by simp, by simp, rfl, by simp; omega, HT2, HX, Lib.hid (by simpa using hRy), Lib.hid (by repeat (first | with_reducible exact Gro.refl _ | with_reducible exact Gro.refl_drew _ _ _ | with_reducible exact Gro.refl_drewN _ _ _ _ | assumption | with_reducible apply Gro.more | with_reducible apply Gro.alloc | with_reducible apply Gro.drew | with_reducible apply Gro.drewN)), Lib.hid (hF.out.gro (by repeat (first | with_reducible exact Gro.refl _ | with_reducible exact Gro.refl_drew _ _ _ | with_reducible exact Gro.refl_drewN _ _ _ _ | assumption | with_reducible apply Gro.more | with_reducible apply Gro.alloc | with_reducible apply Gro.drew | with_reducible apply Gro.drewN)))⟩
            · have hnb : (0 == b.Count) = false := by simp [hne]
              have HT2 := Lib.hid (show (acc ++ [⟨b.Stack, 0, b.Count⟩]) ++ mergeD (xs) (ys.drop 1) = mergeD (entriesOf p) (entriesOf q) from by rw [← HMM.out, pre, if_pos hne]; simp)
              clear hne
              go_wp2_with (fail)
              go_quiet (fail)
              go_wp2_with (fail)
              go_quiet (fail)
              go_wp2_with (fail)
              go_region
              all_goals go_wp2_with (at_builtin; go_must (refine wpList_append_eone (W0 := W) (L := acc.length + 1) rfl (.tmp 108) (.tmp 110) elDelta flatDelta (hF.out.gro (by repeat (first | with_reducible exact Gro.refl _ | with_reducible exact Gro.refl_drew _ _ _ | with_reducible exact Gro.refl_drewN _ _ _ _ | assumption | with_reducible apply Gro.more | with_reducible apply Gro.alloc | with_reducible apply Gro.drew | with_reducible apply Gro.drewN))) (by repeat (first | with_reducible exact Gro.refl _ | with_reducible exact Gro.refl_drew _ _ _ | with_reducible exact Gro.refl_drewN _ _ _ _ | assumption | with_reducible apply Gro.more | with_reducible apply Gro.alloc | with_reducible apply Gro.drew | with_reducible apply Gro.drewN)) (W1 := w) (B := 0) (ec := [.string b.Stack, .int .i64 0, .int .i64 b.Count]) (y := ⟨b.Stack, 0, b.Count⟩) (tDelta_mkR (x := ⟨b.Stack, 0, b.Count⟩) bb0 (show I64 0 from ⟨by decide, by decide⟩) bb1) rfl rfl rfl (by simp) (by intro j u hu; simpa [go_sem] using hu) rfl (by omega) (by omega) ?_); intro D2 e2 os4 d4 hF4)
              all_goals go_roundw
              all_goals try (case measure => simp [slLen3]; omega)
              all_goals exact ⟨xs, ys.drop 1, acc ++ [⟨b.Stack, 0, b.Count⟩], _, By, D2, cx, cy - 1, e2, by simp, by simp, by simp, by simp; omega, HT2, HX, Lib.hid (by simpa using hRy), Lib.hid (by repeat (first | with_reducible exact Gro.refl _ | with_reducible exact Gro.refl_drew _ _ _ | with_reducible exact Gro.refl_drewN _ _ _ _ | assumption | with_reducible apply Gro.more | with_reducible apply Gro.alloc | with_reducible apply Gro.drew | with_reducible apply Gro.drewN)), Lib.hid (.inr (by simpa using hF4))⟩
        · have HM := Lib.hid (show mergeD xs ys = pre ⟨a.Stack, a.Count, 0⟩ (mergeD (xs.drop 1) ys) from by
            conv => lhs; rw [HXC.out, HYC.out]
            rw [mergeD, if_pos (show bl a.Stack < bl b.Stack from bytes_lt hab), ← HYC.out])
          have HMM := Lib.hid (show acc ++ pre ⟨a.Stack, a.Count, 0⟩ (mergeD (xs.drop 1) (ys)) = mergeD (entriesOf p) (entriesOf q) from by rw [← HM.out]; exact HT.out)
          by_cases hne : a.Count = 0
          · have hnb : (a.Count == 0) = true := by simp [hne]
            have HT2 := Lib.hid (show acc ++ mergeD (xs.drop 1) (ys) = mergeD (entriesOf p) (entriesOf q) from by rw [← HMM.out, pre, if_neg (fun k => k hne)])
            clear hne
            go_wp2_with (fail)
            go_quiet (fail)
            go_wp2_with (fail)
            go_region
            all_goals go_wp2_with (fail)
            all_goals go_roundw
            all_goals try (case measure => simp [slLen3]; omega)
            all_goals exact ⟨xs.drop 1, ys, acc, Bx, _, A, cx - 1, cy, c, by simp, by simp, rfl, by simp; omega, HT2, Lib.hid (by simpa using hRx), HY, Lib.hid (by repeat (first | with_reducible exact Gro.refl _ | with_reducible exact Gro.refl_drew _ _ _ | with_reducible exact Gro.refl_drewN _ _ _ _ | assumption | with_reducible apply Gro.more | with_reducible apply Gro.alloc | with_reducible apply Gro.drew | with_reducible apply Gro.drewN)), Lib.hid (hF.out.gro (by repeat (first | with_reducible exact Gro.refl _ | with_reducible exact Gro.refl_drew _ _ _ | with_reducible exact Gro.refl_drewN _ _ _ _ | assumption | with_reducible apply Gro.more | with_reducible apply Gro.alloc | with_reducible apply Gro.drew | with_reducible apply Gro.drewN)))⟩
          · have hnb : (a.Count == 0) = false := by simp [hne]
            have HT2 := Lib.hid (show (acc ++ [⟨a.Stack, a.Count, 0⟩]) ++ mergeD (xs.drop 1) (ys) = mergeD (entriesOf p) (entriesOf q) from by rw [← HMM.out, pre, if_pos hne]; simp)
            clear hne
            go_wp2_with (fail)
            go_quiet (fail)
            go_wp2_with (fail)
            go_region
            all_goals go_wp2_with (at_builtin; go_must (refine wpList_append_eone (W0 := W) (L := acc.length + 1) rfl (.tmp 108) (.tmp 110) elDelta flatDelta (hF.out.gro (by repeat (first | with_reducible exact Gro.refl _ | with_reducible exact Gro.refl_drew _ _ _ | with_reducible exact Gro.refl_drewN _ _ _ _ | assumption | with_reducible apply Gro.more | with_reducible apply Gro.alloc | with_reducible apply Gro.drew | with_reducible apply Gro.drewN))) (by repeat (first | with_reducible exact Gro.refl _ | with_reducible exact Gro.refl_drew _ _ _ | with_reducible exact Gro.refl_drewN _ _ _ _ | assumption | with_reducible apply Gro.more | with_reducible apply Gro.alloc | with_reducible apply Gro.drew | with_reducible apply Gro.drewN)) (W1 := w) (B := 0) (ec := [.string a.Stack, .int .i64 a.Count, .int .i64 0]) (y := ⟨a.Stack, a.Count, 0⟩) (tDelta_mkR (x := ⟨a.Stack, a.Count, 0⟩) ba0 ba1 (show I64 0 from ⟨by decide, by decide⟩)) rfl rfl rfl (by simp) (by intro j u hu; simpa [go_sem] using hu) rfl (by omega) (by omega) ?_); intro D2 e2 os4 d4 hF4)
            all_goals go_roundw
            all_goals try (case measure => simp [slLen3]; omega)
            all_goals exact ⟨xs.drop 1, ys, acc ++ [⟨a.Stack, a.Count, 0⟩], Bx, _, D2, cx - 1, cy, e2, by simp, by simp, by simp, by simp; omega, HT2, Lib.hid (by simpa using hRx), HY, Lib.hid (by repeat (first | with_reducible exact Gro.refl _ | with_reducible exact Gro.refl_drew _ _ _ | with_reducible exact Gro.refl_drewN _ _ _ _ | assumption | with_reducible apply Gro.more | with_reducible apply Gro.alloc | with_reducible apply Gro.drew | with_reducible apply Gro.drewN)), Lib.hid (.inr (by simpa using hF4))⟩
      · have hy0 : ((ys.length : Int) == 0) = true := beq_iff_eq.2 (by omega)
        have HYN := Lib.hid (show ys = [] from List.length_eq_zero_iff.1 (by omega))
        have HM := Lib.hid (show mergeD xs ys = pre ⟨a.Stack, a.Count, 0⟩ (mergeD (xs.drop 1) ys) from by
          conv => lhs; rw [HXC.out]
          rw [HYN.out, mergeD])
        have HMM := Lib.hid (show acc ++ pre ⟨a.Stack, a.Count, 0⟩ (mergeD (xs.drop 1) (ys)) = mergeD (entriesOf p) (entriesOf q) from by rw [← HM.out]; exact HT.out)
        by_cases hne : a.Count = 0
        · have hnb : (a.Count == 0) = true := by simp [hne]
          have HT2 := Lib.hid (show acc ++ mergeD (xs.drop 1) (ys) = mergeD (entriesOf p) (entriesOf q) from by rw [← HMM.out, pre, if_neg (fun k => k hne)])
          clear hne
          go_wp2_with (fail)
          go_quiet (fail)
          go_wp2_with (fail)
          go_region
          all_goals go_wp2_with (fail)
          all_goals go_roundw
          all_goals try (case measure => simp [slLen3]; omega)
          all_goals exact ⟨xs.drop 1, ys, acc, Bx, _, A, cx - 1, cy, c, by simp, by simp, rfl, by simp; omega, HT2, Lib.hid (by simpa using hRx), HY, Lib.hid (by repeat (first | with_reducible exact Gro.refl _ | with_reducible exact Gro.refl_drew _ _ _ | with_reducible exact Gro.refl_drewN _ _ _ _ | assumption | with_reducible apply Gro.more | with_reducible apply Gro.alloc | with_reducible apply Gro.drew | with_reducible apply Gro.drewN)), Lib.hid (hF.out.gro (by repeat (first | with_reducible exact Gro.refl _ | with_reducible exact Gro.refl_drew _ _ _ | with_reducible exact Gro.refl_drewN _ _ _ _ | assumption | with_reducible apply Gro.more | with_reducible apply Gro.alloc | with_reducible apply Gro.drew | with_reducible apply Gro.drewN)))⟩
        · have hnb : (a.Count == 0) = false := by simp [hne]
          have HT2 := Lib.hid (show (acc ++ [⟨a.Stack, a.Count, 0⟩]) ++ mergeD (xs.drop 1) (ys) = mergeD (entriesOf p) (entriesOf q) from by rw [← HMM.out, pre, if_pos hne]; simp)
          clear hne
          go_wp2_with (fail)
          go_quiet (fail)
          go_wp2_with (fail)
          go_region
          all_goals go_wp2_with (at_builtin; go_must (refine wpList_append_eone (W0 := W) (L := acc.length + 1) rfl (.tmp 108) (.tmp 110) elDelta flatDelta (hF.out.gro (by repeat (first | with_reducible exact Gro.refl _ | with_reducible exact Gro.refl_drew _ _ _ | with_reducible exact Gro.refl_drewN _ _ _ _ | assumption | with_reducible apply Gro.more | with_reducible apply Gro.alloc | with_reducible apply Gro.drew | with_reducible apply Gro.drewN))) (by repeat (first | with_reducible exact Gro.refl _ | with_reducible exact Gro.refl_drew _ _ _ | with_reducible exact Gro.refl_drewN _ _ _ _ | assumption | with_reducible apply Gro.more | with_reducible apply Gro.alloc | with_reducible apply Gro.drew | with_reducible apply Gro.drewN)) (W1 := w) (B := 0) (ec := [.string a.Stack, .int .i64 a.Count, .int .i64 0]) (y := ⟨a.Stack, a.Count, 0⟩) (tDelta_mkR (x := ⟨a.Stack, a.Count, 0⟩) ba0 ba1 (show I64 0 from ⟨by decide, by decide⟩)) rfl rfl rfl (by simp) (by intro j u hu; simpa [go_sem] using hu) rfl (by omega) (by omega) ?_); intro D2 e2 os4 d4 hF4)
          all_goals go_roundw
          all_goals try (case measure => simp [slLen3]; omega)
          all_goals exact ⟨xs.drop 1, ys, acc ++ [⟨a.Stack, a.Count, 0⟩], Bx, _, D2, cx - 1, cy, e2, by simp, by simp, by simp, by simp; omega, HT2, Lib.hid (by simpa using hRx), HY, Lib.hid (by repeat (first | with_reducible exact Gro.refl _ | with_reducible exact Gro.refl_drew _ _ _ | with_reducible exact Gro.refl_drewN _ _ _ _ | assumption | with_reducible apply Gro.more | with_reducible apply Gro.alloc | with_reducible apply Gro.drew | with_reducible apply Gro.drewN)), Lib.hid (.inr (by simpa using hF4))⟩
    · have hxd : decide ((0 : Int) < (xs.length : Int)) = false := decide_eq_false (by omega)
      have hx0 : ((xs.length : Int) == 0) = true := beq_iff_eq.2 (by omega)
      have HXN := Lib.hid (show xs = [] from List.length_eq_zero_iff.1 (by omega))
      by_cases hyl : 0 < ys.length
      · obtain ⟨g2, off2, b, rfl, hgb2, hbk, hb0, hb1, bb0, bb1⟩ := atEntry HY.out (k := 0) (by omega); simp only [Nat.zero_mul, Nat.add_zero] at hb0 hb1; have hysi : (0 : Int) < (ys.length : Int) := by omega
        have HYC := Lib.hid (show ys = b :: ys.drop 1 from by have := drop_at hbk; simpa using this)
        obtain ⟨By, hsly, hRy⟩ := run_from elEntry HY.out (k := 1) (by omega); simp only [show ((1 : Nat) : Int) = 1 from rfl] at hsly
        have hy0 : ((ys.length : Int) == 0) = false := beq_eq_false_iff_ne.2 (by omega)
        clear hbk
        have HM := Lib.hid (show mergeD xs ys = pre ⟨b.Stack, 0, b.Count⟩ (mergeD xs (ys.drop 1)) from by
          conv => lhs; rw [HYC.out]
          rw [HXN.out, mergeD])
        have HMM := Lib.hid (show acc ++ pre ⟨b.Stack, 0, b.Count⟩ (mergeD (xs) (ys.drop 1)) = mergeD (entriesOf p) (entriesOf q) from by rw [← HM.out]; exact HT.out)
        by_cases hne : 0 = b.Count
        · have hnb : (0 == b.Count) = true := by simp [hne]
          have HT2 := Lib.hid (show acc ++ mergeD (xs) (ys.drop 1) = mergeD (entriesOf p) (entriesOf q) from by rw [← HMM.out, pre, if_neg (fun k => k hne)])
          clear hne
          go_wp2_with (fail)
          go_quiet (fail)
          go_wp2_with (fail)
          go_quiet (fail)
          go_wp2_with (fail)
          go_region
          all_goals go_wp2_with (fail)
          all_goals go_roundw
          all_goals try (case measure => simp [slLen3]; omega)
          all_goals exact ⟨xs, ys.drop 1, acc, _, By, A, cx, cy - 1, c, by simp, by simp, rfl, by simp; omega, HT2, HX, Lib.hid (by simpa using hRy), Lib.hid (by repeat (first | with_reducible exact Gro.refl _ | with_reducible exact Gro.refl_drew _ _ _ | with_reducible exact Gro.refl_drewN _ _ _ _ | assumption | with_reducible apply Gro.more | with_reducible apply Gro.alloc | with_reducible apply Gro.drew | with_reducible apply Gro.drewN)), Lib.hid (hF.out.gro (by repeat (first | with_reducible exact Gro.refl _ | with_reducible exact Gro.refl_drew _ _ _ | with_reducible exact Gro.refl_drewN _ _ _ _ | assumption | with_reducible apply Gro.more | with_reducible apply Gro.alloc | with_reducible apply Gro.drew | with_reducible apply Gro.drewN)))⟩
        · have hnb : (0 == b.Count) = false := by simp [hne]
          have HT2 := Lib.hid (show (acc ++ [⟨b.Stack, 0, b.Count⟩]) ++ mergeD (xs) (ys.drop 1) = mergeD (entriesOf p) (entriesOf q) from by rw [← HMM.out, pre, if_pos hne]; simp)
          clear hne
          go_wp2_with (fail)
          go_quiet (fail)
          go_wp2_with (fail)
          go_quiet (fail)
          go_wp2_with (fail)
          go_region
          all_goals go_wp2_with (at_builtin; go_must (refine wpList_append_eone (W0 := W) (L := acc.length + 1) rfl (.tmp 108) (.tmp 110) elDelta flatDelta (hF.out.gro (by repeat (first | with_reducible exact Gro.refl _ | with_reducible exact Gro.refl_drew _ _ _ | with_reducible exact Gro.refl_drewN _ _ _ _ | assumption | with_reducible apply Gro.more | with_reducible apply Gro.alloc | with_reducible apply Gro.drew | with_reducible apply Gro.drewN))) (by repeat (first | with_reducible exact Gro.refl _ | with_reducible exact Gro.refl_drew _ _ _ | with_reducible exact Gro.refl_drewN _ _ _ _ | assumption | with_reducible apply Gro.more | with_reducible apply Gro.alloc | with_reducible apply Gro.drew | with_reducible apply Gro.drewN)) (W1 := w) (B := 0) (ec := [.string b.Stack, .int .i64 0, .int .i64 b.Count]) (y := ⟨b.Stack, 0, b.Count⟩) (tDelta_mkR (x := ⟨b.Stack, 0, b.Count⟩) bb0 (show I64 0 from ⟨by decide, by decide⟩) bb1) rfl rfl rfl (by simp) (by intro j u hu; simpa [go_sem] using hu) rfl (by omega) (by omega) ?_); intro D2 e2 os4 d4 hF4)
          all_goals go_roundw
          all_goals try (case measure => simp [slLen3]; omega)
          all_goals exact ⟨xs, ys.drop 1, acc ++ [⟨b.Stack, 0, b.Count⟩], _, By, D2, cx, cy - 1, e2, by simp, by simp, by simp, by simp; omega, HT2, HX, Lib.hid (by simpa using hRy), Lib.hid (by repeat (first | with_reducible exact Gro.refl _ | with_reducible exact Gro.refl_drew _ _ _ | with_reducible exact Gro.refl_drewN _ _ _ _ | assumption | with_reducible apply Gro.more | with_reducible apply Gro.alloc | with_reducible apply Gro.drew | with_reducible apply Gro.drewN)), Lib.hid (.inr (by simpa using hF4))⟩
      · have HYN := Lib.hid (show ys = [] from List.length_eq_zero_iff.1 (by omega))
        have HE := Lib.hid (show diffsOf p q = acc from by
          rw [HR.out, ← HT.out, HXN.out, HYN.out]
          simp [mergeD])
        go_wp2_with (fail)
        go_ret
        rw [HE.out]
        exact ⟨A, c, rfl, (hF.out.fresh (w := w) hgw HG.out.size).gro (by repeat (first | with_reducible exact Gro.refl _ | with_reducible exact Gro.refl_drew _ _ _ | with_reducible exact Gro.refl_drewN _ _ _ _ | assumption | with_reducible apply Gro.more | with_reducible apply Gro.alloc | with_reducible apply Gro.drew | with_reducible apply Gro.drewN)), HG.out.trans (by repeat (first | with_reducible exact Gro.refl _ | with_reducible exact Gro.refl_drew _ _ _ | with_reducible exact Gro.refl_drewN _ _ _ _ | assumption | with_reducible apply Gro.more | with_reducible apply Gro.alloc | with_reducible apply Gro.drew | with_reducible apply Gro.drewN))⟩
end Go.Proofs.YtemeenondbdioaaDoor
