/-
  DIFFERENCES, PART 2: DiffProfiles of the program and of the reference.
-/
import Derived.Test.YtemeenondbdioaaDoorDiff
import Derived.Test.YtemeenondbdioaaDoorBox5
set_option linter.unusedVariables false
set_option linter.unusedSimpArgs false
namespace Go.Proofs.YtemeenondbdioaaDoor
open Go.RowKit
theorem wp_gen {P : Program} {C : Code} {Q : Exit → Act → World → Prop} {a : Act} {W0 : World} (F : World → Prop) (h : F W0) (k : ∀ W, F W → Code.wp P C Q a W) : Code.wp P C Q a W0 := k W0 h
def slLen : Value → Nat
  | .slice _ n _ => n
  | _ => 0
set_option maxRecDepth 100000 in
set_option maxHeartbeats 16000000 in
theorem diff_s {p q : DProfile} {w : World} {A0 A1 A2 A3 : Option Addr} {c0 c1 c2 c3 : Nat} (hx : (tNode.sl 126).R w w.heap.size [.slice A0 p.Stacks.Nodes.length c0] p.Stacks.Nodes) (hy : (intT.sl 3).R w w.heap.size [.slice A1 p.Counts.length c1] p.Counts) (hn : p.Stacks.Nodes.length ≤ 549755813888)
    (hz : (tNode.sl 126).R w w.heap.size [.slice A2 q.Stacks.Nodes.length c2] q.Stacks.Nodes) (hu : (intT.sl 3).R w w.heap.size [.slice A3 q.Counts.length c3] q.Counts) (hm : q.Stacks.Nodes.length ≤ 549755813888) :
    Calls Tryd.prog 35 #[.agg #[.slice A0 p.Stacks.Nodes.length c0, .slice A1 p.Counts.length c1], .agg #[.slice A2 q.Stacks.Nodes.length c2, .slice A3 q.Counts.length c3]] w (RetSl tDelta 106 (diffsOf p q) w) := by
  cases hp : profileOk p
  · have HR := Lib.hid (show diffsOf p q = [] from by simp [diffsOf, hp])
    have HP := Lib.hid hp
    clear hp
    go_enter Tryd.func35, Tryd.ntmps35
    go_wp2_with (go_at_call 60; (with_reducible refine (profileOk_s (p := p) (Ty.up _ hx (by repeat (first | with_reducible exact Gro.refl _ | with_reducible exact Gro.refl_drew _ _ _ | with_reducible exact Gro.refl_drewN _ _ _ _ | assumption | with_reducible apply Gro.more | with_reducible apply Gro.alloc | with_reducible apply Gro.drew | with_reducible apply Gro.drewN))) (Ty.up _ hy (by repeat (first | with_reducible exact Gro.refl _ | with_reducible exact Gro.refl_drew _ _ _ | with_reducible exact Gro.refl_drewN _ _ _ _ | assumption | with_reducible apply Gro.more | with_reducible apply Gro.alloc | with_reducible apply Gro.drew | with_reducible apply Gro.drewN)))).mono ?_); rw [HP.out]; rintro e w1 ⟨rfl, os1p, d1p, rfl⟩)
    go_ret
    rw [HR.out]
    exact ⟨_, 0, rfl, fresh_empty2 (W0 := w) (by repeat (first | with_reducible exact Gro.refl _ | with_reducible exact Gro.refl_drew _ _ _ | with_reducible exact Gro.refl_drewN _ _ _ _ | assumption | with_reducible apply Gro.more | with_reducible apply Gro.alloc | with_reducible apply Gro.drew | with_reducible apply Gro.drewN)) (by repeat (first | with_reducible exact Gro.refl _ | with_reducible exact Gro.refl_drew _ _ _ | with_reducible exact Gro.refl_drewN _ _ _ _ | assumption | with_reducible apply Gro.more | with_reducible apply Gro.alloc | with_reducible apply Gro.drew | with_reducible apply Gro.drewN)) (by simp), (by repeat (first | with_reducible exact Gro.refl _ | with_reducible exact Gro.refl_drew _ _ _ | with_reducible exact Gro.refl_drewN _ _ _ _ | assumption | with_reducible apply Gro.more | with_reducible apply Gro.alloc | with_reducible apply Gro.drew | with_reducible apply Gro.drewN))⟩
  cases hq : profileOk q
  · have HR := Lib.hid (show diffsOf p q = [] from by simp [diffsOf, hp, hq])
    have HP := Lib.hid hp
    have HQ := Lib.hid hq
    clear hp hq
    go_enter Tryd.func35, Tryd.ntmps35
    go_wp2_with (first
      | (go_at_call 60; (with_reducible refine (profileOk_s (p := p) (Ty.up _ hx (by repeat (first | with_reducible exact Gro.refl _ | with_reducible exact Gro.refl_drew _ _ _ | with_reducible exact Gro.refl_drewN _ _ _ _ | assumption | with_reducible apply Gro.more | with_reducible apply Gro.alloc | with_reducible apply Gro.drew | with_reducible apply Gro.drewN))) (Ty.up _ hy (by repeat (first | with_reducible exact Gro.refl _ | with_reducible exact Gro.refl_drew _ _ _ | with_reducible exact Gro.refl_drewN _ _ _ _ | assumption | with_reducible apply Gro.more | with_reducible apply Gro.alloc | with_reducible apply Gro.drew | with_reducible apply Gro.drewN)))).mono ?_); rw [HP.out]; rintro e w1 ⟨rfl, os1p, d1p, rfl⟩)
      | (go_at_call 60; (with_reducible refine (profileOk_s (p := q) (Ty.up _ hz (by repeat (first | with_reducible exact Gro.refl _ | with_reducible exact Gro.refl_drew _ _ _ | with_reducible exact Gro.refl_drewN _ _ _ _ | assumption | with_reducible apply Gro.more | with_reducible apply Gro.alloc | with_reducible apply Gro.drew | with_reducible apply Gro.drewN))) (Ty.up _ hu (by repeat (first | with_reducible exact Gro.refl _ | with_reducible exact Gro.refl_drew _ _ _ | with_reducible exact Gro.refl_drewN _ _ _ _ | assumption | with_reducible apply Gro.more | with_reducible apply Gro.alloc | with_reducible apply Gro.drew | with_reducible apply Gro.drewN)))).mono ?_); rw [HQ.out]; rintro e w1 ⟨rfl, os1q, d1q, rfl⟩))
    go_ret
    rw [HR.out]
    exact ⟨_, 0, rfl, fresh_empty2 (W0 := w) (by repeat (first | with_reducible exact Gro.refl _ | with_reducible exact Gro.refl_drew _ _ _ | with_reducible exact Gro.refl_drewN _ _ _ _ | assumption | with_reducible apply Gro.more | with_reducible apply Gro.alloc | with_reducible apply Gro.drew | with_reducible apply Gro.drewN)) (by repeat (first | with_reducible exact Gro.refl _ | with_reducible exact Gro.refl_drew _ _ _ | with_reducible exact Gro.refl_drewN _ _ _ _ | assumption | with_reducible apply Gro.more | with_reducible apply Gro.alloc | with_reducible apply Gro.drew | with_reducible apply Gro.drewN)) (by simp), (by repeat (first | with_reducible exact Gro.refl _ | with_reducible exact Gro.refl_drew _ _ _ | with_reducible exact Gro.refl_drewN _ _ _ _ | assumption | with_reducible apply Gro.more | with_reducible apply Gro.alloc | with_reducible apply Gro.drew | with_reducible apply Gro.drewN))⟩
  have HR := Lib.hid (show diffsOf p q = diffS (entriesOf p) (entriesOf q) from by simp only [diffsOf, hp, hq, Bool.and_self, if_true]; exact (diff_eq (entriesOf_lt p) (entriesOf_lt q)).symm)
  have HP := Lib.hid hp
  have HQ := Lib.hid hq
  have hpl := Nat.le_of_eq (pOk_len hp)
  have hql := Nat.le_of_eq (pOk_len hq)
  have hlx := entriesOf_len p
  have hly := entriesOf_len q
  clear hp hq
  go_enter Tryd.func35, Tryd.ntmps35
  go_wp2_with (first
    | (go_at_call 60; (with_reducible refine (profileOk_s (p := p) (Ty.up _ hx (by repeat (first | with_reducible exact Gro.refl _ | with_reducible exact Gro.refl_drew _ _ _ | with_reducible exact Gro.refl_drewN _ _ _ _ | assumption | with_reducible apply Gro.more | with_reducible apply Gro.alloc | with_reducible apply Gro.drew | with_reducible apply Gro.drewN))) (Ty.up _ hy (by repeat (first | with_reducible exact Gro.refl _ | with_reducible exact Gro.refl_drew _ _ _ | with_reducible exact Gro.refl_drewN _ _ _ _ | assumption | with_reducible apply Gro.more | with_reducible apply Gro.alloc | with_reducible apply Gro.drew | with_reducible apply Gro.drewN)))).mono ?_); rw [HP.out]; rintro e w1 ⟨rfl, os1p, d1p, rfl⟩)
    | (go_at_call 60; (with_reducible refine (profileOk_s (p := q) (Ty.up _ hz (by repeat (first | with_reducible exact Gro.refl _ | with_reducible exact Gro.refl_drew _ _ _ | with_reducible exact Gro.refl_drewN _ _ _ _ | assumption | with_reducible apply Gro.more | with_reducible apply Gro.alloc | with_reducible apply Gro.drew | with_reducible apply Gro.drewN))) (Ty.up _ hu (by repeat (first | with_reducible exact Gro.refl _ | with_reducible exact Gro.refl_drew _ _ _ | with_reducible exact Gro.refl_drewN _ _ _ _ | assumption | with_reducible apply Gro.more | with_reducible apply Gro.alloc | with_reducible apply Gro.drew | with_reducible apply Gro.drewN)))).mono ?_); rw [HQ.out]; rintro e w1 ⟨rfl, os1q, d1q, rfl⟩)
    | (go_at_call 20; (with_reducible refine (entriesOf_s (p := p) (Ty.up _ hx (by repeat (first | with_reducible exact Gro.refl _ | with_reducible exact Gro.refl_drew _ _ _ | with_reducible exact Gro.refl_drewN _ _ _ _ | assumption | with_reducible apply Gro.more | with_reducible apply Gro.alloc | with_reducible apply Gro.drew | with_reducible apply Gro.drewN))) (Ty.up _ hy (by repeat (first | with_reducible exact Gro.refl _ | with_reducible exact Gro.refl_drew _ _ _ | with_reducible exact Gro.refl_drewN _ _ _ _ | assumption | with_reducible apply Gro.more | with_reducible apply Gro.alloc | with_reducible apply Gro.drew | with_reducible apply Gro.drewN))) (by omega)).mono ?_); rintro e w3 ⟨B3, b3, rfl, hF3, os3, d3, rfl⟩)
    | (go_at_call 20; (with_reducible refine (entriesOf_s (p := q) (Ty.up _ hz (by repeat (first | with_reducible exact Gro.refl _ | with_reducible exact Gro.refl_drew _ _ _ | with_reducible exact Gro.refl_drewN _ _ _ _ | assumption | with_reducible apply Gro.more | with_reducible apply Gro.alloc | with_reducible apply Gro.drew | with_reducible apply Gro.drewN))) (Ty.up _ hu (by repeat (first | with_reducible exact Gro.refl _ | with_reducible exact Gro.refl_drew _ _ _ | with_reducible exact Gro.refl_drewN _ _ _ _ | assumption | with_reducible apply Gro.more | with_reducible apply Gro.alloc | with_reducible apply Gro.drew | with_reducible apply Gro.drewN))) (by omega)).mono ?_); rintro e w3 ⟨B4, b4, rfl, hF4, os4, d4, rfl⟩)
    | (at_builtin; refine wpList_append_flat (W0 := (gro (gro (gro (gro (((w.alloc (.cells #[.slice A0 p.Stacks.Nodes.length c0, .slice A1 p.Counts.length c1] 46)).alloc (.cells #[.slice A2 q.Stacks.Nodes.length c2, .slice A3 q.Counts.length c3] 46)).alloc (.cells #[] 106)) os1p d1p) os1q d1q) os3 d3) os4 d4)) (L := (entriesOf p).length) rfl (.tmp 26) (.tmp 27) elEntry flatEntry (fresh_empty2 (X := (gro (gro (gro (gro (((w.alloc (.cells #[.slice A0 p.Stacks.Nodes.length c0, .slice A1 p.Counts.length c1] 46)).alloc (.cells #[.slice A2 q.Stacks.Nodes.length c2, .slice A3 q.Counts.length c3] 46)).alloc (.cells #[] 106)) os1p d1p) os1q d1q) os3 d3) os4 d4)) (by repeat (first | with_reducible exact Gro.refl _ | with_reducible exact Gro.refl_drew _ _ _ | with_reducible exact Gro.refl_drewN _ _ _ _ | assumption | with_reducible apply Gro.more | with_reducible apply Gro.alloc | with_reducible apply Gro.drew | with_reducible apply Gro.drewN)) (by repeat (first | with_reducible exact Gro.refl _ | with_reducible exact Gro.refl_drew _ _ _ | with_reducible exact Gro.refl_drewN _ _ _ _ | assumption | with_reducible apply Gro.more | with_reducible apply Gro.alloc | with_reducible apply Gro.drew | with_reducible apply Gro.drewN)) (by simp)) (by repeat (first | with_reducible exact Gro.refl _ | with_reducible exact Gro.refl_drew _ _ _ | with_reducible exact Gro.refl_drewN _ _ _ _ | assumption | with_reducible apply Gro.more | with_reducible apply Gro.alloc | with_reducible apply Gro.drew | with_reducible apply Gro.drewN)) (Ty.up _ hF3.read (by repeat (first | with_reducible exact Gro.refl _ | with_reducible exact Gro.refl_drew _ _ _ | with_reducible exact Gro.refl_drewN _ _ _ _ | assumption | with_reducible apply Gro.more | with_reducible apply Gro.alloc | with_reducible apply Gro.drew | with_reducible apply Gro.drewN))) rfl rfl rfl (by omega) (by omega) (by omega) ?_; intro D1 e1 os5 d5 hF5)
    | (at_builtin; refine wpList_append_flat (W0 := (gro (gro (gro (gro (((w.alloc (.cells #[.slice A0 p.Stacks.Nodes.length c0, .slice A1 p.Counts.length c1] 46)).alloc (.cells #[.slice A2 q.Stacks.Nodes.length c2, .slice A3 q.Counts.length c3] 46)).alloc (.cells #[] 106)) os1p d1p) os1q d1q) os3 d3) os4 d4)) (L := (entriesOf p).length + (entriesOf q).length) rfl (.tmp 28) (.tmp 29) elEntry flatEntry hF5 (by repeat (first | with_reducible exact Gro.refl _ | with_reducible exact Gro.refl_drew _ _ _ | with_reducible exact Gro.refl_drewN _ _ _ _ | assumption | with_reducible apply Gro.more | with_reducible apply Gro.alloc | with_reducible apply Gro.drew | with_reducible apply Gro.drewN)) (Ty.up _ hF4.read (by repeat (first | with_reducible exact Gro.refl _ | with_reducible exact Gro.refl_drew _ _ _ | with_reducible exact Gro.refl_drewN _ _ _ _ | assumption | with_reducible apply Gro.more | with_reducible apply Gro.alloc | with_reducible apply Gro.drew | with_reducible apply Gro.drewN))) rfl rfl rfl (by omega) (by omega) (by omega) ?_; intro D2 e2 os6 d6 hF6))
  refine wp_gen (fun W => Hid (Gro w W) ∧ Hid ((tEntry.sl 90).R W W.heap.size [.slice B3 (entriesOf p).length b3] (entriesOf p)) ∧ Hid ((tEntry.sl 90).R W W.heap.size [.slice B4 (entriesOf q).length b4] (entriesOf q)) ∧ Hid ((tEntry.sl 90).R W W.heap.size [.slice D2 ((entriesOf p).length + (entriesOf q).length) e2] (entriesOf p ++ entriesOf q)) ∧ Hid (Fresh (tDelta.sl 106) w W [.slice (some ⟨w.heap.size + 1 + 1, 0, none⟩) 0 0] [])) ⟨Lib.hid (by repeat (first | with_reducible exact Gro.refl _ | with_reducible exact Gro.refl_drew _ _ _ | with_reducible exact Gro.refl_drewN _ _ _ _ | assumption | with_reducible apply Gro.more | with_reducible apply Gro.alloc | with_reducible apply Gro.drew | with_reducible apply Gro.drewN)), Lib.hid (Ty.up _ hF3.read (by repeat (first | with_reducible exact Gro.refl _ | with_reducible exact Gro.refl_drew _ _ _ | with_reducible exact Gro.refl_drewN _ _ _ _ | assumption | with_reducible apply Gro.more | with_reducible apply Gro.alloc | with_reducible apply Gro.drew | with_reducible apply Gro.drewN))), Lib.hid (Ty.up _ hF4.read (by repeat (first | with_reducible exact Gro.refl _ | with_reducible exact Gro.refl_drew _ _ _ | with_reducible exact Gro.refl_drewN _ _ _ _ | assumption | with_reducible apply Gro.more | with_reducible apply Gro.alloc | with_reducible apply Gro.drew | with_reducible apply Gro.drewN))), Lib.hid (by simpa using hF6.read), Lib.hid (fresh_empty2 (W0 := w) (by repeat (first | with_reducible exact Gro.refl _ | with_reducible exact Gro.refl_drew _ _ _ | with_reducible exact Gro.refl_drewN _ _ _ _ | assumption | with_reducible apply Gro.more | with_reducible apply Gro.alloc | with_reducible apply Gro.drew | with_reducible apply Gro.drewN)) (by repeat (first | with_reducible exact Gro.refl _ | with_reducible exact Gro.refl_drew _ _ _ | with_reducible exact Gro.refl_drewN _ _ _ _ | assumption | with_reducible apply Gro.more | with_reducible apply Gro.alloc | with_reducible apply Gro.drew | with_reducible apply Gro.drewN)) (by simp))⟩ ?_
  clear hx hy hz hu hF3 hF4 hF5 hF6
  rintro W ⟨HG, HX, HY, HA, HO⟩
  go_loopw [5, 9] (fun a b wr => ∃ (j : Nat) (acc : List DDelta) (A : Option Addr) (c : Nat), a = .slice A acc.length c ∧ b = .int .i64 j ∧ j ≤ (entriesOf p).length + (entriesOf q).length ∧ acc.length ≤ j ∧ Hid (((entriesOf p ++ entriesOf q).take j).foldl (fun acc e => insD acc (dl (entriesOf p) (entriesOf q) e.Stack)) [] = acc) ∧ Hid (Gro W wr) ∧ Hid (Fresh (tDelta.sl 106) w wr [.slice A acc.length c] acc)) (fun _ b _ => (entriesOf p).length + (entriesOf q).length - (intOf b).toNat)
  case atStart => exact ⟨0, [], _, 0, rfl, rfl, by omega, by simp, Lib.hid (by simp), Lib.hid (by repeat (first | with_reducible exact Gro.refl _ | with_reducible exact Gro.refl_drew _ _ _ | with_reducible exact Gro.refl_drewN _ _ _ _ | assumption | with_reducible apply Gro.more | with_reducible apply Gro.alloc | with_reducible apply Gro.drew | with_reducible apply Gro.drewN)), HO⟩
  case round =>
    obtain ⟨j, acc, A, c, rfl, rfl, hj, hacc, HT, hG, hF⟩ := hrel
    obtain ⟨os, d, rfl⟩ := hG.out
    clear hG
    by_cases hlt : j < (entriesOf p).length + (entriesOf q).length
    · obtain ⟨g, off, e, rfl, hgb, hek, he0, he1, be0, be1⟩ := atEntry HA.out (k := j) (by simpa using hlt)
      have hcxb := cntE_bound HX.out e.Stack
      have hcyb := cntE_bound HY.out e.Stack
      obtain ⟨cx, hcx⟩ : ∃ n, cntE (entriesOf p) e.Stack = n := ⟨_, rfl⟩
      obtain ⟨cy, hcy⟩ : ∃ n, cntE (entriesOf q) e.Stack = n := ⟨_, rfl⟩
      rw [hcx] at hcxb
      rw [hcy] at hcyb
      have HCX := Lib.hid hcx
      have HCY := Lib.hid hcy
      have HS := Lib.hid (show ((entriesOf p ++ entriesOf q).take (j + 1)).foldl (fun acc e => insD acc (dl (entriesOf p) (entriesOf q) e.Stack)) [] = insD acc ⟨e.Stack, cx, cy⟩ from by
        rw [take_snoc hek, List.foldl_append, HT.out, List.foldl_cons, List.foldl_nil]
        unfold dl
        rw [hcx, hcy])
      clear hek hcx hcy HT
      have hc0 : (gro W os d).cell? ⟨g, off + j * 2, none⟩ = some (.string e.Stack) := gro_keeps he0 _ _
      obtain ⟨_, _, hv, hcc, hcm⟩ := sl_at hF.out.read
      injection hv with hA' _ hc'
      subst hA' hc'
      clear he0 he1
      go_upto_region 10 with fail
      go_cut [10] from 31 to 105 (fun b wx => ∃ bx : Nat, b = .pointer (some ⟨bx, 0, none⟩) ∧ wx.cell? ⟨bx, 0, none⟩ = some (.string e.Stack) ∧ wx.cell? ⟨bx, 1, none⟩ = some (.int .i64 cx) ∧ wx.cell? ⟨bx, 2, none⟩ = some (.int .i64 cy) ∧ Hid (Gro (gro W os d) wx))
      case first =>
        have hgl : g < (gro W os d).heap.size := World.block_lt_of_cell? _ _ hc0
        have HXR := Lib.hid (show (tEntry.sl 90).R (gro W os d) (gro W os d).heap.size [.slice B3 (entriesOf p).length b3] (entriesOf p) from Ty.up _ HX.out (by repeat (first | with_reducible exact Gro.refl _ | with_reducible exact Gro.refl_drew _ _ _ | with_reducible exact Gro.refl_drewN _ _ _ _ | assumption | with_reducible apply Gro.more | with_reducible apply Gro.alloc | with_reducible apply Gro.drew | with_reducible apply Gro.drewN)))
        have HYR := Lib.hid (show (tEntry.sl 90).R (gro W os d) (gro W os d).heap.size [.slice B4 (entriesOf q).length b4] (entriesOf q) from Ty.up _ HY.out (by repeat (first | with_reducible exact Gro.refl _ | with_reducible exact Gro.refl_drew _ _ _ | with_reducible exact Gro.refl_drewN _ _ _ _ | assumption | with_reducible apply Gro.more | with_reducible apply Gro.alloc | with_reducible apply Gro.drew | with_reducible apply Gro.drewN)))
        have hjc : (j : Int) < ((entriesOf p).length + (entriesOf q).length : Int) := by omega
        have hjc2 : (0 : Int) ≤ (j : Int) := by omega
        clear hF HX HY HA HO HG
        obtain ⟨V, hV, HGV⟩ : ∃ V, gro W os d = V ∧ Hid (Gro (gro W os d) V) := ⟨_, rfl, Lib.hid (Gro.refl _)⟩
        rw [hV] at hc0 hgl HXR HYR ⊢
        clear hV
        go_region_held3 (fun w' => w'.cell? ⟨g, off + j * 2, none⟩ = some (.string e.Stack)) ((repeat' apply And.intro) <;> (first | ((repeat (first | assumption | with_reducible refine gro_keeps ?_ _ _ | with_reducible refine alloc_keeps ?_ _ | with_reducible refine drew_keeps ?_)); done) | (simp [go_sem]; done))) (first
          | (go_at_call 82; (with_reducible refine (count_s (xs := entriesOf p) (s := e.Stack) (Ty.up _ HXR.out (by repeat (first | with_reducible exact Gro.refl _ | with_reducible exact Gro.refl_drew _ _ _ | with_reducible exact Gro.refl_drewN _ _ _ _ | assumption | with_reducible apply Gro.more | with_reducible apply Gro.alloc | with_reducible apply Gro.drew | with_reducible apply Gro.drewN)))).mono ?_); rw [HCX.out]; rintro e9 w3 ⟨rfl, os3, d3, rfl⟩)
          | (go_at_call 82; (with_reducible refine (count_s (xs := entriesOf q) (s := e.Stack) (Ty.up _ HYR.out (by repeat (first | with_reducible exact Gro.refl _ | with_reducible exact Gro.refl_drew _ _ _ | with_reducible exact Gro.refl_drewN _ _ _ _ | assumption | with_reducible apply Gro.more | with_reducible apply Gro.alloc | with_reducible apply Gro.drew | with_reducible apply Gro.drewN)))).mono ?_); rw [HCY.out]; rintro e9 w4 ⟨rfl, os4, d4, rfl⟩))
        all_goals go_wp2_with fail
        all_goals go_meet
        all_goals exact ⟨_, rfl, by simp [go_sem], by simp [go_sem], by simp [go_sem], Lib.hid (HGV.out.trans (by repeat (first | with_reducible exact Gro.refl _ | with_reducible exact Gro.refl_drew _ _ _ | with_reducible exact Gro.refl_drewN _ _ _ _ | assumption | with_reducible apply Gro.more | with_reducible apply Gro.alloc | with_reducible apply Gro.drew | with_reducible apply Gro.drewN)))⟩
      case rest =>
        obtain ⟨bx, rfl, hb0, hb1, hb2, hG2⟩ := hcut
        have HF2 := Lib.hid (hF.out.gro hG2.out)
        have HG3 := Lib.hid (show Gro W wc from Gro.trans (by repeat (first | with_reducible exact Gro.refl _ | with_reducible exact Gro.refl_drew _ _ _ | with_reducible exact Gro.refl_drewN _ _ _ _ | assumption | with_reducible apply Gro.more | with_reducible apply Gro.alloc | with_reducible apply Gro.drew | with_reducible apply Gro.drewN)) hG2.out)
        have hbl := World.block_lt_of_cell? _ _ hb0
        simp only at hbl
        clear hF hG2 HA hgb hc0
        go_wp2_with (fail)
        go_loopw [11] (fun b wr => ∃ i : Nat, b = .int .i64 i ∧ i ≤ acc.length ∧ Hid (Gro wc wr) ∧ Hid (∀ t y, t < i → acc[t]? = some y → y.Stack.data.toList < e.Stack.data.toList)) (fun b _ => acc.length - (intOf b).toNat)
        case atStart => exact ⟨0, rfl, by omega, Lib.hid (by repeat (first | with_reducible exact Gro.refl _ | with_reducible exact Gro.refl_drew _ _ _ | with_reducible exact Gro.refl_drewN _ _ _ _ | assumption | with_reducible apply Gro.more | with_reducible apply Gro.alloc | with_reducible apply Gro.drew | with_reducible apply Gro.drewN)), Lib.hid (fun t y ht _ => absurd ht (Nat.not_lt_zero _))⟩
        case round =>
          obtain ⟨i, rfl, hi, hGc, HB⟩ := hrel
          obtain ⟨osc, dc, rfl⟩ := hGc.out
          clear hGc
          by_cases hil : i < acc.length
          · obtain ⟨g3, off3, y, rfl, hgb3, hyk, hcy0, hcy1, hcy2, by0, by1, by2⟩ := atDelta HF2.out.read hil
            have HY2 := Lib.hid hyk
            clear hyk
            have hdi : decide ((i : Int) < (acc.length : Int)) = true := by simp; omega
            have hil2 : ((i : Int) == (acc.length : Int)) = false := beq_eq_false_iff_ne.2 (by omega)
            cases hb : Op.bytesLess y.Stack.toList e.Stack.toList
            · have HI0 := Lib.hid (rankD_of (acc := acc) (s := e.Stack) HB.out (fun y2 hy2 => by rw [HY2.out] at hy2; cases hy2; exact bytes_nlt hb) hi)
              by_cases hxy : cx = cy
              · subst hxy
                have HI := Lib.hid (show insD acc ⟨e.Stack, cx, cx⟩ = acc from ins_no1 rfl)
                go_wp2_with (fail)
                go_quiet (fail)
                go_wp2_with (fail)
                go_quiet (fail)
                go_wp2_with (fail)
                go_roundw
                case rel => exact ⟨j + 1, acc, _, c, rfl, by go_num, by omega, by omega, Lib.hid (by rw [HS.out, HI.out]), Lib.hid (HG3.out.trans (by repeat (first | with_reducible exact Gro.refl _ | with_reducible exact Gro.refl_drew _ _ _ | with_reducible exact Gro.refl_drewN _ _ _ _ | assumption | with_reducible apply Gro.more | with_reducible apply Gro.alloc | with_reducible apply Gro.drew | with_reducible apply Gro.drewN))), Lib.hid (HF2.out.gro (by repeat (first | with_reducible exact Gro.refl _ | with_reducible exact Gro.refl_drew _ _ _ | with_reducible exact Gro.refl_drewN _ _ _ _ | assumption | with_reducible apply Gro.more | with_reducible apply Gro.alloc | with_reducible apply Gro.drew | with_reducible apply Gro.drewN)))⟩
                case measure => simp [intOf]; omega
              · have hne : (cx == cy) = false := by simp [hxy]
                by_cases hys : y.Stack = e.Stack
                · have hse : (y.Stack.toList == e.Stack.toList) = true := by rw [str_eqb]; simp [hys]
                  have HYS := Lib.hid hys
                  clear hys
                  have HI := Lib.hid (show insD acc ⟨e.Stack, cx, cy⟩ = acc from ins_no2 HI0.out HY2.out HYS.out)
                  go_wp2_with (fail)
                  go_quiet (fail)
                  go_wp2_with (fail)
                  go_quiet (fail)
                  go_wp2_with (fail)
                  go_roundw
                  case rel => exact ⟨j + 1, acc, _, c, rfl, by go_num, by omega, by omega, Lib.hid (by rw [HS.out, HI.out]), Lib.hid (HG3.out.trans (by repeat (first | with_reducible exact Gro.refl _ | with_reducible exact Gro.refl_drew _ _ _ | with_reducible exact Gro.refl_drewN _ _ _ _ | assumption | with_reducible apply Gro.more | with_reducible apply Gro.alloc | with_reducible apply Gro.drew | with_reducible apply Gro.drewN))), Lib.hid (HF2.out.gro (by repeat (first | with_reducible exact Gro.refl _ | with_reducible exact Gro.refl_drew _ _ _ | with_reducible exact Gro.refl_drewN _ _ _ _ | assumption | with_reducible apply Gro.more | with_reducible apply Gro.alloc | with_reducible apply Gro.drew | with_reducible apply Gro.drewN)))⟩
                  case measure => simp [intOf]; omega
                · have hse : (y.Stack.toList == e.Stack.toList) = false := by rw [str_eqb]; simp [hys]
                  have HYS := Lib.hid hys
                  clear hys
                  have HI := Lib.hid (show insD acc ⟨e.Stack, cx, cy⟩ = acc.take i ++ ⟨e.Stack, cx, cy⟩ :: acc.drop i from ins_yes HI0.out hxy (fun z hz => by rw [HY2.out] at hz; cases hz; exact HYS.out))
                  have HIL := Lib.hid (show (insD acc ⟨e.Stack, cx, cy⟩).length = acc.length + 1 from by rw [HI.out]; simp only [List.length_append, List.length_take, List.length_cons, List.length_drop]; omega)
                  obtain ⟨hsl2, hR2⟩ := run_upto elDelta HF2.out.read (k := i) (by omega)
                  obtain ⟨B9, hsl, hR1⟩ := run_from elDelta HF2.out.read (k := i) (by omega)
                  have HR1 := Lib.hid hR1
                  have HR2 := Lib.hid hR2
                  clear hR1 hR2
                  go_wp2_with (fail)
                  go_quiet (fail)
                  go_wp2_with (fail)
                  go_quiet (fail)
                  go_wp2_with (fail)
                  go_region_law (first
                    | (refine step_append_cap0 rfl (.tmp 94) (.tmp 97) elDelta flatDelta (by repeat (first | with_reducible exact Gro.refl _ | with_reducible exact Gro.refl_drew _ _ _ | with_reducible exact Gro.refl_drewN _ _ _ _ | assumption | with_reducible apply Gro.more | with_reducible apply Gro.alloc | with_reducible apply Gro.drew | with_reducible apply Gro.drewN)) (by simp) (Ty.up _ HR2.out (by repeat (first | with_reducible exact Gro.refl _ | with_reducible exact Gro.refl_drew _ _ _ | with_reducible exact Gro.refl_drewN _ _ _ _ | assumption | with_reducible apply Gro.more | with_reducible apply Gro.alloc | with_reducible apply Gro.drew | with_reducible apply Gro.drewN))) rfl rfl rfl (by omega) (by omega) ?_; intro D1' e1' os1 d1 hF1)
                    | (refine step_append_fone (W0 := wc) (L := i + 1) rfl (.tmp 98) (.tmp 100) elDelta flatDelta ((hF1.gro (by repeat (first | with_reducible exact Gro.refl _ | with_reducible exact Gro.refl_drew _ _ _ | with_reducible exact Gro.refl_drewN _ _ _ _ | assumption | with_reducible apply Gro.more | with_reducible apply Gro.alloc | with_reducible apply Gro.drew | with_reducible apply Gro.drewN))).fresh (by simp <;> omega) (by simp <;> omega)) (by repeat (first | with_reducible exact Gro.refl _ | with_reducible exact Gro.refl_drew _ _ _ | with_reducible exact Gro.refl_drewN _ _ _ _ | assumption | with_reducible apply Gro.more | with_reducible apply Gro.alloc | with_reducible apply Gro.drew | with_reducible apply Gro.drewN)) (W1 := w) (B := 0) (ec := [.string e.Stack, .int .i64 cx, .int .i64 cy]) (y := ⟨e.Stack, cx, cy⟩) (tDelta_mkR (x := ⟨e.Stack, cx, cy⟩) be0 hcxb hcyb) rfl rfl rfl (by intro j u hu; simpa [go_sem] using hu) rfl (by omega) (by omega) ?_; intro D2' e2' os2 d2 hF3)
                    | (refine step_append_flat (W0 := wc) (L := acc.length + 1) rfl (.tmp 101) (.tmp 104) elDelta flatDelta hF3 (by repeat (first | with_reducible exact Gro.refl _ | with_reducible exact Gro.refl_drew _ _ _ | with_reducible exact Gro.refl_drewN _ _ _ _ | assumption | with_reducible apply Gro.more | with_reducible apply Gro.alloc | with_reducible apply Gro.drew | with_reducible apply Gro.drewN)) (Ty.up _ HR1.out (by repeat (first | with_reducible exact Gro.refl _ | with_reducible exact Gro.refl_drew _ _ _ | with_reducible exact Gro.refl_drewN _ _ _ _ | assumption | with_reducible apply Gro.more | with_reducible apply Gro.alloc | with_reducible apply Gro.drew | with_reducible apply Gro.drewN))) rfl rfl rfl (by omega) (by omega) (by omega) ?_; intro D3 e3 os3 d3 hF4))
                  all_goals
                    go_wp2
                    go_roundw
                    case rel => exact ⟨j + 1, insD acc ⟨e.Stack, cx, cy⟩, D3, e3, by rw [HIL.out], by go_num, by omega, by rw [HIL.out]; omega, HS, Lib.hid (HG3.out.trans (by repeat (first | with_reducible exact Gro.refl _ | with_reducible exact Gro.refl_drew _ _ _ | with_reducible exact Gro.refl_drewN _ _ _ _ | assumption | with_reducible apply Gro.more | with_reducible apply Gro.alloc | with_reducible apply Gro.drew | with_reducible apply Gro.drewN))), Lib.hid (by rw [HI.out]; have := hF4.since (w0 := w) (Nat.le_trans HG.out.size HG3.out.size); simpa [List.append_assoc, List.length_append, Nat.min_eq_left (show i ≤ acc.length by omega), show i + (acc.length - i + 1) = acc.length + 1 by omega] using this)⟩
                    case measure => simp [intOf]; omega
            · go_wp2_with (fail)
              go_quiet (fail)
              go_wp2_with (fail)
              go_roundw
              case rel =>
                have HN := Lib.hid (show ∀ t y, t < i + 1 → acc[t]? = some y → y.Stack.data.toList < e.Stack.data.toList from fun t z ht hz => by
                  by_cases ee : t = i
                  · subst ee; rw [HY2.out] at hz; cases hz; exact bytes_lt hb
                  · exact HB.out t z (by omega) hz)
                first
                  | exact ⟨i + 1, by go_num, by omega, Lib.hid (by repeat (first | with_reducible exact Gro.refl _ | with_reducible exact Gro.refl_drew _ _ _ | with_reducible exact Gro.refl_drewN _ _ _ _ | assumption | with_reducible apply Gro.more | with_reducible apply Gro.alloc | with_reducible apply Gro.drew | with_reducible apply Gro.drewN)), HN⟩
                  | (repeat apply Exists.intro
                     exact ⟨⟨i + 1, by go_num, by omega, Lib.hid (by repeat (first | with_reducible exact Gro.refl _ | with_reducible exact Gro.refl_drew _ _ _ | with_reducible exact Gro.refl_drewN _ _ _ _ | assumption | with_reducible apply Gro.more | with_reducible apply Gro.alloc | with_reducible apply Gro.drew | with_reducible apply Gro.drewN)), HN⟩, rfl⟩)
              case measure => simp [intOf]; omega
          · have hie : i = acc.length := by omega
            have HI0 := Lib.hid (rankD_of (acc := acc) (s := e.Stack) HB.out (fun y2 hy2 => by rw [List.getElem?_eq_none (by omega)] at hy2; cases hy2) hi)
            have HNO := Lib.hid (show acc[i]? = none from List.getElem?_eq_none (by omega))
            have hdi : decide ((i : Int) < (acc.length : Int)) = false := by simp; omega
            clear hie
            by_cases hxy : cx = cy
            · subst hxy
              have HI := Lib.hid (show insD acc ⟨e.Stack, cx, cx⟩ = acc from ins_no1 rfl)
              go_wp2_with (fail)
              go_quiet (fail)
              go_wp2_with (fail)
              go_quiet (fail)
              go_wp2_with (fail)
              go_roundw
              case rel => exact ⟨j + 1, acc, _, c, rfl, by go_num, by omega, by omega, Lib.hid (by rw [HS.out, HI.out]), Lib.hid (HG3.out.trans (by repeat (first | with_reducible exact Gro.refl _ | with_reducible exact Gro.refl_drew _ _ _ | with_reducible exact Gro.refl_drewN _ _ _ _ | assumption | with_reducible apply Gro.more | with_reducible apply Gro.alloc | with_reducible apply Gro.drew | with_reducible apply Gro.drewN))), Lib.hid (HF2.out.gro (by repeat (first | with_reducible exact Gro.refl _ | with_reducible exact Gro.refl_drew _ _ _ | with_reducible exact Gro.refl_drewN _ _ _ _ | assumption | with_reducible apply Gro.more | with_reducible apply Gro.alloc | with_reducible apply Gro.drew | with_reducible apply Gro.drewN)))⟩
              case measure => simp [intOf]; omega
            · have hne : (cx == cy) = false := by simp [hxy]
              have hne2 : (cx != cy) = true := by simp [hxy]
              have HI := Lib.hid (show insD acc ⟨e.Stack, cx, cy⟩ = acc.take i ++ ⟨e.Stack, cx, cy⟩ :: acc.drop i from ins_yes HI0.out hxy (fun z hz => by rw [HNO.out] at hz; cases hz))
              have HIL := Lib.hid (show (insD acc ⟨e.Stack, cx, cy⟩).length = acc.length + 1 from by rw [HI.out]; simp only [List.length_append, List.length_take, List.length_cons, List.length_drop]; omega)
              obtain ⟨hsl2, hR2⟩ := run_upto elDelta HF2.out.read (k := i) (by omega)
              obtain ⟨B9, hsl, hR1⟩ := run_from elDelta HF2.out.read (k := i) (by omega)
              have HR1 := Lib.hid hR1
              have HR2 := Lib.hid hR2
              clear hR1 hR2
              have HXY := Lib.hid hxy
              clear hxy
              go_wp2_with (fail)
              go_quiet (fail)
              go_wp2_with (fail)
              have hil2 : ((i : Int) == (acc.length : Int)) = true := beq_iff_eq.2 (by omega)
              go_quiet (fail)
              go_wp2_with (fail)
              go_region_law (first
                | (refine step_append_cap0 rfl (.tmp 94) (.tmp 97) elDelta flatDelta (by repeat (first | with_reducible exact Gro.refl _ | with_reducible exact Gro.refl_drew _ _ _ | with_reducible exact Gro.refl_drewN _ _ _ _ | assumption | with_reducible apply Gro.more | with_reducible apply Gro.alloc | with_reducible apply Gro.drew | with_reducible apply Gro.drewN)) (by simp) (Ty.up _ HR2.out (by repeat (first | with_reducible exact Gro.refl _ | with_reducible exact Gro.refl_drew _ _ _ | with_reducible exact Gro.refl_drewN _ _ _ _ | assumption | with_reducible apply Gro.more | with_reducible apply Gro.alloc | with_reducible apply Gro.drew | with_reducible apply Gro.drewN))) rfl rfl rfl (by omega) (by omega) ?_; intro D1' e1' os1 d1 hF1)
                | (refine step_append_fone (W0 := wc) (L := i + 1) rfl (.tmp 98) (.tmp 100) elDelta flatDelta ((hF1.gro (by repeat (first | with_reducible exact Gro.refl _ | with_reducible exact Gro.refl_drew _ _ _ | with_reducible exact Gro.refl_drewN _ _ _ _ | assumption | with_reducible apply Gro.more | with_reducible apply Gro.alloc | with_reducible apply Gro.drew | with_reducible apply Gro.drewN))).fresh (by simp <;> omega) (by simp <;> omega)) (by repeat (first | with_reducible exact Gro.refl _ | with_reducible exact Gro.refl_drew _ _ _ | with_reducible exact Gro.refl_drewN _ _ _ _ | assumption | with_reducible apply Gro.more | with_reducible apply Gro.alloc | with_reducible apply Gro.drew | with_reducible apply Gro.drewN)) (W1 := w) (B := 0) (ec := [.string e.Stack, .int .i64 cx, .int .i64 cy]) (y := ⟨e.Stack, cx, cy⟩) (tDelta_mkR (x := ⟨e.Stack, cx, cy⟩) be0 hcxb hcyb) rfl rfl rfl (by intro j u hu; simpa [go_sem] using hu) rfl (by omega) (by omega) ?_; intro D2' e2' os2 d2 hF3)
                | (refine step_append_flat (W0 := wc) (L := acc.length + 1) rfl (.tmp 101) (.tmp 104) elDelta flatDelta hF3 (by repeat (first | with_reducible exact Gro.refl _ | with_reducible exact Gro.refl_drew _ _ _ | with_reducible exact Gro.refl_drewN _ _ _ _ | assumption | with_reducible apply Gro.more | with_reducible apply Gro.alloc | with_reducible apply Gro.drew | with_reducible apply Gro.drewN)) (Ty.up _ HR1.out (by repeat (first | with_reducible exact Gro.refl _ | with_reducible exact Gro.refl_drew _ _ _ | with_reducible exact Gro.refl_drewN _ _ _ _ | assumption | with_reducible apply Gro.more | with_reducible apply Gro.alloc | with_reducible apply Gro.drew | with_reducible apply Gro.drewN))) rfl rfl rfl (by omega) (by omega) (by omega) ?_; intro D3 e3 os3 d3 hF4))
              all_goals
                go_wp2
                go_roundw
                case rel => exact ⟨j + 1, insD acc ⟨e.Stack, cx, cy⟩, D3, e3, by rw [HIL.out], by go_num, by omega, by rw [HIL.out]; omega, HS, Lib.hid (HG3.out.trans (by repeat (first | with_reducible exact Gro.refl _ | with_reducible exact Gro.refl_drew _ _ _ | with_reducible exact Gro.refl_drewN _ _ _ _ | assumption | with_reducible apply Gro.more | with_reducible apply Gro.alloc | with_reducible apply Gro.drew | with_reducible apply Gro.drewN))), Lib.hid (by rw [HI.out]; have := hF4.since (w0 := w) (Nat.le_trans HG.out.size HG3.out.size); simpa [List.append_assoc, List.length_append, Nat.min_eq_left (show i ≤ acc.length by omega), show i + (acc.length - i + 1) = acc.length + 1 by omega] using this)⟩
                case measure => simp [intOf]; omega
    · have hje : j = (entriesOf p).length + (entriesOf q).length := by omega
      subst hje
      have HQ' := Lib.hid (show diffsOf p q = acc from by
        rw [HR.out, ← HT.out]
        unfold diffS
        rw [List.take_of_length_le (by simp)])
      go_wp2
      go_ret
      rw [HQ'.out]
      exact ⟨A, c, rfl, hF.out.gro (by repeat (first | with_reducible exact Gro.refl _ | with_reducible exact Gro.refl_drew _ _ _ | with_reducible exact Gro.refl_drewN _ _ _ _ | assumption | with_reducible apply Gro.more | with_reducible apply Gro.alloc | with_reducible apply Gro.drew | with_reducible apply Gro.drewN)), HG.out.trans (by repeat (first | with_reducible exact Gro.refl _ | with_reducible exact Gro.refl_drew _ _ _ | with_reducible exact Gro.refl_drewN _ _ _ _ | assumption | with_reducible apply Gro.more | with_reducible apply Gro.alloc | with_reducible apply Gro.drew | with_reducible apply Gro.drewN))⟩
end Go.Proofs.YtemeenondbdioaaDoor
