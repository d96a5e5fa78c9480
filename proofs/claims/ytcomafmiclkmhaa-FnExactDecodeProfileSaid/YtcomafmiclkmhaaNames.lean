/-
  NAMES: NamesOf of the reference.
-/
import Derived.Test.YtcomafmiclkmhaaSortLaw
import Derived.Test.YtcomafmiclkmhaaProfile2
import Derived.Test.YtcomafmiclkmhaaBox4
import Derived.Test.YtcomafmiclkmhaaRing
import Derived.Deep.RegionHeld3
import Derived.Deep.RegionLaw
set_option linter.unusedVariables false
set_option linter.unusedSimpArgs false
namespace Go.Proofs.Ytcomafmiclkmhaa
open Go.RowKit
def bl (s : ByteArray) : List UInt8 := s.data.toList
theorem bl_inj {x y : ByteArray} (h : bl x = bl y) : x = y := by
  cases x; cases y; simpa [bl] using h
def rankB (acc : List ByteArray) (s : ByteArray) : Nat := rankL (acc.map bl) (bl s)
def insB (acc : List ByteArray) (s : ByteArray) : List ByteArray := if acc[rankB acc s]? = some s then acc else acc.take (rankB acc s) ++ s :: acc.drop (rankB acc s)
theorem insB_map (acc : List ByteArray) (s : ByteArray) : (insB acc s).map bl = insL (acc.map bl) (bl s) := by
  unfold insB insL
  have e : (acc.map bl)[rankL (acc.map bl) (bl s)]? = some (bl s) ↔ acc[rankB acc s]? = some s := by
    unfold rankB
    rw [List.getElem?_map]
    cases acc[rankL (acc.map bl) (bl s)]? with
    | none => simp
    | some y =>
      simp only [Option.map_some, Option.some.injEq]
      exact ⟨bl_inj, fun h => by rw [h]⟩
  by_cases h : acc[rankB acc s]? = some s
  · rw [if_pos h, if_pos (e.2 h)]
  · rw [if_neg h, if_neg (fun h' => h (e.1 h'))]
    unfold rankB
    simp
theorem foldl_insB (l : List ByteArray) : ∀ acc, (l.foldl insB acc).map bl = (l.map bl).foldl insL (acc.map bl) := by
  induction l with
  | nil => intro acc; rfl
  | cons s l ih => intro acc; simp only [List.foldl_cons, List.map_cons]; rw [ih, insB_map]
theorem insB_len (acc : List ByteArray) (s : ByteArray) : (insB acc s).length ≤ acc.length + 1 := by
  unfold insB
  split
  · omega
  · simp only [List.length_append, List.length_take, List.length_cons, List.length_drop]; omega
theorem rankB_of {acc : List ByteArray} {s : ByteArray} {k : Nat} (h1 : ∀ j x, j < k → acc[j]? = some x → x.data.toList < s.data.toList) (h2 : ∀ x, acc[k]? = some x → ¬ x.data.toList < s.data.toList) (hk : k ≤ acc.length) : rankB acc s = k := by
  refine rankL_of (fun j x hj hx => ?_) (fun x hx => ?_) (by simpa using hk)
  · rw [List.getElem?_map] at hx
    cases hy : acc[j]? with
    | none => rw [hy] at hx; simp at hx
    | some y => rw [hy] at hx; simp at hx; subst hx; exact h1 j y hj hy
  · rw [List.getElem?_map] at hx
    cases hy : acc[k]? with
    | none => rw [hy] at hx; simp at hx
    | some y => rw [hy] at hx; simp at hx; subst hx; exact h2 y hy
theorem insB_at {acc : List ByteArray} {s : ByteArray} {k : Nat} (hr : rankB acc s = k) (h : acc[k]? = some s) : insB acc s = acc := by
  unfold insB
  rw [hr, if_pos h]
theorem insB_new {acc : List ByteArray} {s : ByteArray} {k : Nat} (hr : rankB acc s = k) (h : acc[k]? ≠ some s) : insB acc s = acc.take k ++ s :: acc.drop k := by
  unfold insB
  rw [hr, if_neg h]
theorem toList_dat (s : ByteArray) : s.toList = s.data.toList := ByteArray.toList_eq _
theorem bytes_lt {x y : ByteArray} (h : Op.bytesLess x.toList y.toList = true) : x.data.toList < y.data.toList := by
  rw [bytesLess_dec, toList_dat, toList_dat] at h
  simpa using h
theorem bytes_nlt {x y : ByteArray} (h : Op.bytesLess x.toList y.toList = false) : ¬ x.data.toList < y.data.toList := by
  rw [bytesLess_dec, toList_dat, toList_dat] at h
  simpa using h
def nmTake (ns : List DNode) (j : Nat) : List ByteArray := (ns.take j).map fun x => x.Frame.Name
theorem nmTake_snoc {ns : List DNode} {j : Nat} {x : DNode} (h : ns[j]? = some x) : nmTake ns (j + 1) = nmTake ns j ++ [x.Frame.Name] := by
  unfold nmTake
  rw [take_snoc h, List.map_append]
  rfl
def namesOf (p : DProfile) : List ByteArray := if profileOk p then (p.Stacks.Nodes.map fun x => x.Frame.Name).foldl insB [] else []
set_option maxRecDepth 100000 in
set_option maxHeartbeats 4000000 in
theorem namesOf_s {p : DProfile} {w : World} {A0 A1 : Option Addr} {c0 c1 : Nat} (hx : (tNode.sl 41).R w w.heap.size [.slice A0 p.Stacks.Nodes.length c0] p.Stacks.Nodes) (hy : (intT.sl 3).R w w.heap.size [.slice A1 p.Counts.length c1] p.Counts) (hn : p.Stacks.Nodes.length ≤ 1099511627776) :
    Calls Try.prog 23 #[.agg #[.slice A0 p.Stacks.Nodes.length c0, .slice A1 p.Counts.length c1]] w (RetSl strT 9 (namesOf p) w) := by
  cases hok : profileOk p
  · have HF := Lib.hid (show namesOf p = [] from by simp [namesOf, hok])
    have HO := Lib.hid hok
    clear hok
    go_enter Try.func23, Try.ntmps23
    go_wp2_with (go_at_call 22; go_must ((with_reducible refine (profileOk_s (p := p) (Ty.up _ hx (by repeat (first | with_reducible exact Gro.refl _ | with_reducible exact Gro.refl_drew _ _ _ | with_reducible exact Gro.refl_drewN _ _ _ _ | assumption | with_reducible apply Gro.more | with_reducible apply Gro.alloc | with_reducible apply Gro.drew | with_reducible apply Gro.drewN))) (Ty.up _ hy (by repeat (first | with_reducible exact Gro.refl _ | with_reducible exact Gro.refl_drew _ _ _ | with_reducible exact Gro.refl_drewN _ _ _ _ | assumption | with_reducible apply Gro.more | with_reducible apply Gro.alloc | with_reducible apply Gro.drew | with_reducible apply Gro.drewN)))).mono ?_); rw [HO.out]); rintro e w1 ⟨rfl, os1, d1, rfl⟩)
    go_loop [3, 5] (fun x y => x = .slice (some ⟨w.heap.size + 1, 0, none⟩) 0 0 ∧ y = .int .i64 0) (fun _ _ => 0)
    case atStart => exact ⟨rfl, rfl⟩
    case round =>
      obtain ⟨rfl, rfl⟩ := hrel
      by_cases h0 : 0 < p.Stacks.Nodes.length
      all_goals
        go_wp2
        go_ret
        rw [HF.out]
        exact ⟨_, 0, rfl, fresh_empty2 (W0 := w) (by repeat (first | with_reducible exact Gro.refl _ | with_reducible exact Gro.refl_drew _ _ _ | with_reducible exact Gro.refl_drewN _ _ _ _ | assumption | with_reducible apply Gro.more | with_reducible apply Gro.alloc | with_reducible apply Gro.drew | with_reducible apply Gro.drewN)) (by repeat (first | with_reducible exact Gro.refl _ | with_reducible exact Gro.refl_drew _ _ _ | with_reducible exact Gro.refl_drewN _ _ _ _ | assumption | with_reducible apply Gro.more | with_reducible apply Gro.alloc | with_reducible apply Gro.drew | with_reducible apply Gro.drewN)) (by simp), (by repeat (first | with_reducible exact Gro.refl _ | with_reducible exact Gro.refl_drew _ _ _ | with_reducible exact Gro.refl_drewN _ _ _ _ | assumption | with_reducible apply Gro.more | with_reducible apply Gro.alloc | with_reducible apply Gro.drew | with_reducible apply Gro.drewN))⟩
  · have HF := Lib.hid (show namesOf p = (nmTake p.Stacks.Nodes p.Stacks.Nodes.length).foldl insB [] from by simp [namesOf, hok, nmTake])
    have HO := Lib.hid hok
    clear hok
    go_enter Try.func23, Try.ntmps23
    go_wp2_with (go_at_call 22; go_must ((with_reducible refine (profileOk_s (p := p) (Ty.up _ hx (by repeat (first | with_reducible exact Gro.refl _ | with_reducible exact Gro.refl_drew _ _ _ | with_reducible exact Gro.refl_drewN _ _ _ _ | assumption | with_reducible apply Gro.more | with_reducible apply Gro.alloc | with_reducible apply Gro.drew | with_reducible apply Gro.drewN))) (Ty.up _ hy (by repeat (first | with_reducible exact Gro.refl _ | with_reducible exact Gro.refl_drew _ _ _ | with_reducible exact Gro.refl_drewN _ _ _ _ | assumption | with_reducible apply Gro.more | with_reducible apply Gro.alloc | with_reducible apply Gro.drew | with_reducible apply Gro.drewN)))).mono ?_); rw [HO.out]); rintro e w1 ⟨rfl, os1, d1, rfl⟩)
    go_loopw [3, 5] (fun a b wr => ∃ (j : Nat) (acc : List ByteArray) (A : Option Addr) (c : Nat), a = .slice A acc.length c ∧ b = .int .i64 j ∧ j ≤ p.Stacks.Nodes.length ∧ acc.length ≤ j ∧ Hid ((nmTake p.Stacks.Nodes j).foldl insB [] = acc) ∧ Hid (Gro (w.alloc (.cells #[.slice A0 p.Stacks.Nodes.length c0, .slice A1 p.Counts.length c1] 27)) wr) ∧ Hid (Fresh (strT.sl 9) (w.alloc (.cells #[.slice A0 p.Stacks.Nodes.length c0, .slice A1 p.Counts.length c1] 27)) wr [.slice A acc.length c] acc)) (fun _ b _ => p.Stacks.Nodes.length - (intOf b).toNat)
    case atStart => exact ⟨0, [], _, 0, rfl, rfl, by omega, by simp, Lib.hid (by simp [nmTake]), Lib.hid (by repeat (first | with_reducible exact Gro.refl _ | with_reducible exact Gro.refl_drew _ _ _ | with_reducible exact Gro.refl_drewN _ _ _ _ | assumption | with_reducible apply Gro.more | with_reducible apply Gro.alloc | with_reducible apply Gro.drew | with_reducible apply Gro.drewN)), Lib.hid (fresh_empty2 (by repeat (first | with_reducible exact Gro.refl _ | with_reducible exact Gro.refl_drew _ _ _ | with_reducible exact Gro.refl_drewN _ _ _ _ | assumption | with_reducible apply Gro.more | with_reducible apply Gro.alloc | with_reducible apply Gro.drew | with_reducible apply Gro.drewN)) (by repeat (first | with_reducible exact Gro.refl _ | with_reducible exact Gro.refl_drew _ _ _ | with_reducible exact Gro.refl_drewN _ _ _ _ | assumption | with_reducible apply Gro.more | with_reducible apply Gro.alloc | with_reducible apply Gro.drew | with_reducible apply Gro.drewN)) (by simp))⟩
    case round =>
      obtain ⟨j, acc, A, c, rfl, rfl, hj, hacc, HT, hG, hF⟩ := hrel
      obtain ⟨os, d, rfl⟩ := hG.out
      clear hG
      by_cases hlt : j < p.Stacks.Nodes.length
      · obtain ⟨g, off, x, rfl, hgb, hxk, hx0, hx1, hx2, bx0, bx1, bx2⟩ := atNode hx hlt
        have HX := Lib.hid hxk
        have HXL := Lib.hid hx
        clear hxk hx
        obtain ⟨_, _, hv, hcc, hcm⟩ := sl_at hF.out.read
        injection hv with hA' _ hc'
        subst hA' hc'
        go_wp2_with (fail)
        go_loop [7] (fun b => ∃ i : Nat, b = .int .i64 i ∧ i ≤ acc.length ∧ Hid (∀ t y, t < i → acc[t]? = some y → y.data.toList < x.Frame.Name.data.toList)) (fun b => acc.length - (intOf b).toNat)
        case atStart => exact ⟨0, rfl, by omega, Lib.hid (fun t y ht _ => absurd ht (Nat.not_lt_zero _))⟩
        case round =>
          obtain ⟨i, rfl, hi, HB⟩ := hrel
          by_cases hil : i < acc.length
          · obtain ⟨g2, off2, y, rfl, hyk, hcy, by1⟩ := strs_at hF.out.read hil
            have HY := Lib.hid hyk
            have hgb2 := World.block_lt_of_cell? _ _ hcy
            simp only at hgb2
            clear hyk
            cases hb : Op.bytesLess y.toList x.Frame.Name.toList
            · have HI0 := Lib.hid (rankB_of (acc := acc) (s := x.Frame.Name) HB.out (fun y2 hy2 => by rw [HY.out] at hy2; cases hy2; exact bytes_nlt hb) hi)
              have hne : ((i : Int) == (acc.length : Int)) = false := by simp; omega
              by_cases heq : y = x.Frame.Name
              · have heb : (y.toList == x.Frame.Name.toList) = true := by rw [str_eqb]; simp [heq]
                have HI := Lib.hid (show insB acc x.Frame.Name = acc from insB_at HI0.out (by rw [HY.out, heq]))
                clear heq
                go_wp2_with (fail)
                go_roundw
                case rel => exact ⟨j + 1, acc, _, c, rfl, by go_num, by omega, by omega, Lib.hid (by rw [nmTake_snoc HX.out, List.foldl_append, HT.out]; exact HI.out), Lib.hid (by repeat (first | with_reducible exact Gro.refl _ | with_reducible exact Gro.refl_drew _ _ _ | with_reducible exact Gro.refl_drewN _ _ _ _ | assumption | with_reducible apply Gro.more | with_reducible apply Gro.alloc | with_reducible apply Gro.drew | with_reducible apply Gro.drewN)), hF⟩
                case measure => simp [intOf]; omega
              · have heb : (y.toList == x.Frame.Name.toList) = false := by rw [str_eqb]; simp [heq]
                have HI := Lib.hid (show insB acc x.Frame.Name = acc.take i ++ x.Frame.Name :: acc.drop i from insB_new HI0.out (by rw [HY.out]; intro h; exact heq (Option.some.inj h)))
                clear heq
                obtain ⟨hsl2, hR2⟩ := run_upto el_str hF.out.read (k := i) (by omega)
                obtain ⟨B9, hsl, hR1⟩ := run_from el_str hF.out.read (k := i) (by omega)
                have HR1 := Lib.hid hR1
                have HR2 := Lib.hid hR2
                clear hR1 hR2
                go_wp2_with (fail)
                go_region_law (first
                  | (refine step_append_cap0 rfl (.tmp 56) (.tmp 59) el_str flat_str (by repeat (first | with_reducible exact Gro.refl _ | with_reducible exact Gro.refl_drew _ _ _ | with_reducible exact Gro.refl_drewN _ _ _ _ | assumption | with_reducible apply Gro.more | with_reducible apply Gro.alloc | with_reducible apply Gro.drew | with_reducible apply Gro.drewN)) (by simp) (Ty.up _ HR2.out (by repeat (first | with_reducible exact Gro.refl _ | with_reducible exact Gro.refl_drew _ _ _ | with_reducible exact Gro.refl_drewN _ _ _ _ | assumption | with_reducible apply Gro.more | with_reducible apply Gro.alloc | with_reducible apply Gro.drew | with_reducible apply Gro.drewN))) rfl rfl rfl (by omega) (by omega) ?_; intro D1 e1 os1 d1 hF1)
                  | (refine step_append_fone (W0 := gro (w.alloc (.cells #[.slice (some ⟨g, off, none⟩) p.Stacks.Nodes.length c0, .slice A1 p.Counts.length c1] 27)) os d) (L := i + 1) rfl (.tmp 60) (.tmp 62) el_str flat_str ((hF1.gro (by repeat (first | with_reducible exact Gro.refl _ | with_reducible exact Gro.refl_drew _ _ _ | with_reducible exact Gro.refl_drewN _ _ _ _ | assumption | with_reducible apply Gro.more | with_reducible apply Gro.alloc | with_reducible apply Gro.drew | with_reducible apply Gro.drewN))).fresh (by simp <;> omega) (by simp <;> omega)) (by repeat (first | with_reducible exact Gro.refl _ | with_reducible exact Gro.refl_drew _ _ _ | with_reducible exact Gro.refl_drewN _ _ _ _ | assumption | with_reducible apply Gro.more | with_reducible apply Gro.alloc | with_reducible apply Gro.drew | with_reducible apply Gro.drewN)) (W1 := w) (B := 0) (ec := [.string x.Frame.Name]) (y := x.Frame.Name) ⟨rfl, bx1⟩ rfl rfl rfl (by intro j u hu; simpa [go_sem] using hu) rfl (by omega) (by omega) ?_; intro D2 e2 os2 d2 hF2)
                  | (refine step_append_flat (W0 := gro (w.alloc (.cells #[.slice (some ⟨g, off, none⟩) p.Stacks.Nodes.length c0, .slice A1 p.Counts.length c1] 27)) os d) (L := acc.length + 1) rfl (.tmp 63) (.tmp 66) el_str flat_str hF2 (by repeat (first | with_reducible exact Gro.refl _ | with_reducible exact Gro.refl_drew _ _ _ | with_reducible exact Gro.refl_drewN _ _ _ _ | assumption | with_reducible apply Gro.more | with_reducible apply Gro.alloc | with_reducible apply Gro.drew | with_reducible apply Gro.drewN)) (Ty.up _ HR1.out (by repeat (first | with_reducible exact Gro.refl _ | with_reducible exact Gro.refl_drew _ _ _ | with_reducible exact Gro.refl_drewN _ _ _ _ | assumption | with_reducible apply Gro.more | with_reducible apply Gro.alloc | with_reducible apply Gro.drew | with_reducible apply Gro.drewN))) rfl rfl rfl (by omega) (by omega) (by omega) ?_; intro D3 e3 os3 d3 hF3))
                all_goals
                  go_wp2
                  go_roundw
                  case rel => exact ⟨j + 1, insB acc x.Frame.Name, D3, e3, by rw [HI.out]; simp only [List.length_append, List.length_take, List.length_cons, List.length_drop]; congr 1; omega, by go_num, by omega, by have := insB_len acc x.Frame.Name; omega, Lib.hid (by rw [nmTake_snoc HX.out, List.foldl_append, HT.out]; rfl), Lib.hid (by repeat (first | with_reducible exact Gro.refl _ | with_reducible exact Gro.refl_drew _ _ _ | with_reducible exact Gro.refl_drewN _ _ _ _ | assumption | with_reducible apply Gro.more | with_reducible apply Gro.alloc | with_reducible apply Gro.drew | with_reducible apply Gro.drewN)), Lib.hid (by rw [HI.out]; have := hF3.since (w0 := w.alloc (.cells #[.slice (some ⟨g, off, none⟩) p.Stacks.Nodes.length c0, .slice A1 p.Counts.length c1] 27)) (by simp); simpa [List.append_assoc, List.length_append, Nat.min_eq_left (show i ≤ acc.length by omega), show i + (acc.length - i + 1) = acc.length + 1 by omega] using this)⟩
                  case measure => simp [intOf]; omega

            · go_wp2_with (fail)
              go_round
              case rel => exact ⟨i + 1, by go_num, by omega, Lib.hid (fun t z ht hz => by
                by_cases e : t = i
                · subst e; rw [HY.out] at hz; cases hz; exact bytes_lt hb
                · exact HB.out t z (by omega) hz)⟩
              case measure => simp [intOf]; omega
          · have hie : i = acc.length := by omega
            have HI0 := Lib.hid (rankB_of (acc := acc) (s := x.Frame.Name) HB.out (fun y2 hy2 => by rw [List.getElem?_eq_none (by omega)] at hy2; cases hy2) hi)
            have hne : ((i : Int) == (acc.length : Int)) = true := by simp; omega
            have HI := Lib.hid (show insB acc x.Frame.Name = acc.take i ++ x.Frame.Name :: acc.drop i from insB_new HI0.out (by rw [List.getElem?_eq_none (by omega)]; simp))
            clear hie
            obtain ⟨hsl2, hR2⟩ := run_upto el_str hF.out.read (k := i) (by omega)
            obtain ⟨B9, hsl, hR1⟩ := run_from el_str hF.out.read (k := i) (by omega)
            have HR1 := Lib.hid hR1
            have HR2 := Lib.hid hR2
            clear hR1 hR2
            go_wp2_with (fail)
            go_region_law (first
              | (refine step_append_cap0 rfl (.tmp 56) (.tmp 59) el_str flat_str (by repeat (first | with_reducible exact Gro.refl _ | with_reducible exact Gro.refl_drew _ _ _ | with_reducible exact Gro.refl_drewN _ _ _ _ | assumption | with_reducible apply Gro.more | with_reducible apply Gro.alloc | with_reducible apply Gro.drew | with_reducible apply Gro.drewN)) (by simp) (Ty.up _ HR2.out (by repeat (first | with_reducible exact Gro.refl _ | with_reducible exact Gro.refl_drew _ _ _ | with_reducible exact Gro.refl_drewN _ _ _ _ | assumption | with_reducible apply Gro.more | with_reducible apply Gro.alloc | with_reducible apply Gro.drew | with_reducible apply Gro.drewN))) rfl rfl rfl (by omega) (by omega) ?_; intro D1 e1 os1 d1 hF1)
              | (refine step_append_fone (W0 := gro (w.alloc (.cells #[.slice (some ⟨g, off, none⟩) p.Stacks.Nodes.length c0, .slice A1 p.Counts.length c1] 27)) os d) (L := i + 1) rfl (.tmp 60) (.tmp 62) el_str flat_str ((hF1.gro (by repeat (first | with_reducible exact Gro.refl _ | with_reducible exact Gro.refl_drew _ _ _ | with_reducible exact Gro.refl_drewN _ _ _ _ | assumption | with_reducible apply Gro.more | with_reducible apply Gro.alloc | with_reducible apply Gro.drew | with_reducible apply Gro.drewN))).fresh (by simp <;> omega) (by simp <;> omega)) (by repeat (first | with_reducible exact Gro.refl _ | with_reducible exact Gro.refl_drew _ _ _ | with_reducible exact Gro.refl_drewN _ _ _ _ | assumption | with_reducible apply Gro.more | with_reducible apply Gro.alloc | with_reducible apply Gro.drew | with_reducible apply Gro.drewN)) (W1 := w) (B := 0) (ec := [.string x.Frame.Name]) (y := x.Frame.Name) ⟨rfl, bx1⟩ rfl rfl rfl (by intro j u hu; simpa [go_sem] using hu) rfl (by omega) (by omega) ?_; intro D2 e2 os2 d2 hF2)
              | (refine step_append_flat (W0 := gro (w.alloc (.cells #[.slice (some ⟨g, off, none⟩) p.Stacks.Nodes.length c0, .slice A1 p.Counts.length c1] 27)) os d) (L := acc.length + 1) rfl (.tmp 63) (.tmp 66) el_str flat_str hF2 (by repeat (first | with_reducible exact Gro.refl _ | with_reducible exact Gro.refl_drew _ _ _ | with_reducible exact Gro.refl_drewN _ _ _ _ | assumption | with_reducible apply Gro.more | with_reducible apply Gro.alloc | with_reducible apply Gro.drew | with_reducible apply Gro.drewN)) (Ty.up _ HR1.out (by repeat (first | with_reducible exact Gro.refl _ | with_reducible exact Gro.refl_drew _ _ _ | with_reducible exact Gro.refl_drewN _ _ _ _ | assumption | with_reducible apply Gro.more | with_reducible apply Gro.alloc | with_reducible apply Gro.drew | with_reducible apply Gro.drewN))) rfl rfl rfl (by omega) (by omega) (by omega) ?_; intro D3 e3 os3 d3 hF3))
            all_goals
              go_wp2
              go_roundw
              case rel => exact ⟨j + 1, insB acc x.Frame.Name, D3, e3, by rw [HI.out]; simp only [List.length_append, List.length_take, List.length_cons, List.length_drop]; congr 1; omega, by go_num, by omega, by have := insB_len acc x.Frame.Name; omega, Lib.hid (by rw [nmTake_snoc HX.out, List.foldl_append, HT.out]; rfl), Lib.hid (by repeat (first | with_reducible exact Gro.refl _ | with_reducible exact Gro.refl_drew _ _ _ | with_reducible exact Gro.refl_drewN _ _ _ _ | assumption | with_reducible apply Gro.more | with_reducible apply Gro.alloc | with_reducible apply Gro.drew | with_reducible apply Gro.drewN)), Lib.hid (by rw [HI.out]; have := hF3.since (w0 := w.alloc (.cells #[.slice (some ⟨g, off, none⟩) p.Stacks.Nodes.length c0, .slice A1 p.Counts.length c1] 27)) (by simp); simpa [List.append_assoc, List.length_append, Nat.min_eq_left (show i ≤ acc.length by omega), show i + (acc.length - i + 1) = acc.length + 1 by omega] using this)⟩
              case measure => simp [intOf]; omega

      · have hje : j = p.Stacks.Nodes.length := by omega
        subst hje
        have HQ := Lib.hid (show namesOf p = acc from by rw [HF.out, HT.out])
        go_wp2
        go_ret
        rw [HQ.out]
        exact ⟨A, c, rfl, hF.out.since (by simp), (by repeat (first | with_reducible exact Gro.refl _ | with_reducible exact Gro.refl_drew _ _ _ | with_reducible exact Gro.refl_drewN _ _ _ _ | assumption | with_reducible apply Gro.more | with_reducible apply Gro.alloc | with_reducible apply Gro.drew | with_reducible apply Gro.drewN))⟩
end Go.Proofs.Ytcomafmiclkmhaa
