/-
  SCALE: ScaleProfile of the program and of the reference.
-/
import Derived.Test.YtdlkoffandhclaaGreatDoorScaleLaw
import Derived.Test.YtdlkoffandhclaaGreatDoorMerge
import Derived.BigQuiet
import Derived.Deep.RegionHeld3
import Derived.Deep.RegionWith
import Derived.Deep.RegionLaw
set_option linter.unusedVariables false
set_option linter.unusedSimpArgs false
namespace Go.Proofs.YtdlkoffandhclaaGreatDoor
open Go.RowKit
theorem profOfN_i {L : List DEntry} {m : Int} {w : World} {A : Option Addr} {c N : Nat} (hN : N = L.length) (hx : (tEntry.sl 48).R w w.heap.size [.slice A N c] L) (hsz : ∀ (j : Nat) (e : DEntry), L[j]? = some e → e.Stack.size ≤ 1073741824) (hfr : frSum L ≤ 500000000000) (hm : w.cell? ⟨0, 0, none⟩ = some (.int .i64 m)) :
    Calls Tryz.prog 18 #[.slice A N c] w (RetProfileBool (profR L) w) := by
  subst hN
  exact profOf_i hx hsz hfr hm
theorem profOfN_s {L : List DEntry} {w : World} {A : Option Addr} {c N : Nat} (hN : N = L.length) (hx : (tEntry.sl 48).R w w.heap.size [.slice A N c] L) (hsz : ∀ (j : Nat) (e : DEntry), L[j]? = some e → e.Stack.size ≤ 1073741824) (hfr : frSum L ≤ 500000000000) :
    Calls Tryz.prog 24 #[.slice A N c] w (RetProfileBool (profR L) w) := by
  subst hN
  exact profOf_s hx hsz hfr
set_option maxRecDepth 100000 in
set_option maxHeartbeats 8000000 in
theorem scale_i {p : DProfile} {n : Int} {m : Int} {w : World} {A0 A1 : Option Addr} {c0 c1 : Nat} (hx : (tNode.sl 92).R w w.heap.size [.slice A0 p.Stacks.Nodes.length c0] p.Stacks.Nodes) (hy : (intT.sl 3).R w w.heap.size [.slice A1 p.Counts.length c1] p.Counts) (hn : p.Stacks.Nodes.length ≤ 16777216) (hfr : frSum (entriesOf p) ≤ 500000000000) (hlen : w.cell? ⟨0, 0, none⟩ = some (.int .i64 m)) :
    Calls Tryz.prog 11 #[.agg #[.slice A0 p.Stacks.Nodes.length c0, .slice A1 p.Counts.length c1], .int .i64 n] w (RetProfileBool (scaleP p n) w) := by
  have HM := Lib.hid hlen
  clear hlen
  cases hp : profileOk p
  · have HR := Lib.hid (show scaleP p n = (emptyP, false) from by simp [scaleP, hp])
    have HP := Lib.hid hp
    clear hp
    go_enter Tryz.func11, Tryz.ntmps11
    go_wp2_with (fail)
    first | (go_region_law (first
    | (go_simp; go_at_call 41; (with_reducible refine (profileOk_i (p := p) (Ty.up _ hx (by repeat (first | with_reducible exact Gro.refl _ | with_reducible exact Gro.refl_drew _ _ _ | with_reducible exact Gro.refl_drewN _ _ _ _ | assumption | with_reducible apply Gro.more | with_reducible apply Gro.alloc | with_reducible apply Gro.drew | with_reducible apply Gro.drewN))) (Ty.up _ hy (by repeat (first | with_reducible exact Gro.refl _ | with_reducible exact Gro.refl_drew _ _ _ | with_reducible exact Gro.refl_drewN _ _ _ _ | assumption | with_reducible apply Gro.more | with_reducible apply Gro.alloc | with_reducible apply Gro.drew | with_reducible apply Gro.drewN)))).mono ?_); rw [HP.out]; rintro e w1 ⟨rfl, os1, d1, rfl⟩))) | fail
    all_goals go_wp2_with (fail)
    all_goals refine bodyPost_ret (v := .tuple #[.agg #[.slice none 0 0, .slice none 0 0], .bool false]) (by simp [results, Tryz.results11, go_sem]) rfl (ret_profile_bool HR.out (fresh_emptyP _ _) (by repeat (first | with_reducible exact Gro.refl _ | with_reducible exact Gro.refl_drew _ _ _ | with_reducible exact Gro.refl_drewN _ _ _ _ | assumption | with_reducible apply Gro.more | with_reducible apply Gro.alloc | with_reducible apply Gro.drew | with_reducible apply Gro.drewN)))
  cases hb : btw n 1 1000000000000
  · have HR := Lib.hid (show scaleP p n = (emptyP, false) from by simp [scaleP, hp, hb])
    have HP := Lib.hid hp
    have HB := Lib.hid hb
    clear hp hb
    go_enter Tryz.func11, Tryz.ntmps11
    go_wp2_with (fail)
    first | (go_region_law (first
    | (go_simp; go_at_call 41; (with_reducible refine (profileOk_i (p := p) (Ty.up _ hx (by repeat (first | with_reducible exact Gro.refl _ | with_reducible exact Gro.refl_drew _ _ _ | with_reducible exact Gro.refl_drewN _ _ _ _ | assumption | with_reducible apply Gro.more | with_reducible apply Gro.alloc | with_reducible apply Gro.drew | with_reducible apply Gro.drewN))) (Ty.up _ hy (by repeat (first | with_reducible exact Gro.refl _ | with_reducible exact Gro.refl_drew _ _ _ | with_reducible exact Gro.refl_drewN _ _ _ _ | assumption | with_reducible apply Gro.more | with_reducible apply Gro.alloc | with_reducible apply Gro.drew | with_reducible apply Gro.drewN)))).mono ?_); rw [HP.out]; rintro e w1 ⟨rfl, os1, d1, rfl⟩)
    | (go_simp; go_at_call 42; (with_reducible refine (in_i _ _ _ _).mono ?_); rw [HB.out]; rintro e w1 ⟨rfl, rfl⟩))) | fail
    all_goals go_wp2_with (fail)
    all_goals refine bodyPost_ret (v := .tuple #[.agg #[.slice none 0 0, .slice none 0 0], .bool false]) (by simp [results, Tryz.results11, go_sem]) rfl (ret_profile_bool HR.out (fresh_emptyP _ _) (by repeat (first | with_reducible exact Gro.refl _ | with_reducible exact Gro.refl_drew _ _ _ | with_reducible exact Gro.refl_drewN _ _ _ _ | assumption | with_reducible apply Gro.more | with_reducible apply Gro.alloc | with_reducible apply Gro.drew | with_reducible apply Gro.drewN)))
  have hb1 := btw_iff.1 hb
  obtain ⟨hn1, hn2⟩ := hb1
  have hn0 : n ≠ 0 := by omega
  obtain ⟨T, hT⟩ : ∃ T, totalOf p = T := ⟨_, rfl⟩
  have HT := Lib.hid hT
  obtain ⟨Q, hQ⟩ : ∃ Q, Int.tdiv 1000000000000 n = Q := ⟨_, rfl⟩
  have HQ := Lib.hid hQ
  have hQd : (1000000000000 : Int) / n = Q := by rw [← hQ, Int.tdiv_eq_ediv_of_nonneg (by omega)]
  have hQ0 : 0 ≤ Q := by rw [← hQd]; exact Int.ediv_nonneg (by omega) (by omega)
  have hQ1 : Q ≤ 1000000000000 := by rw [← hQd]; exact Int.ediv_le_self _ (by omega)
  have HQD := Lib.hid hQd
  have hqw : IntKind.i64.wrap (Int.tdiv 1000000000000 n) = Q := by rw [hQ]; exact IntWalk.i64_in _ ⟨by omega, by omega⟩
  have hnz : (n == 0) = false := by simp only [beq_eq_false_iff_ne]; exact hn0
  clear hQd
  cases ht : decide (totalOf p ≤ Int.tdiv 1000000000000 n)
  · have HR := Lib.hid (show scaleP p n = (emptyP, false) from by simp [scaleP, hp, hb, ht])
    have hlt : Q < T := by
      have := of_decide_eq_false ht
      rw [hT, hQ] at this
      omega
    have hdl : decide (Q < T) = true := decide_eq_true hlt
    have HP := Lib.hid hp
    have HB := Lib.hid hb
    clear hp hb ht hT hQ HQ
    go_enter Tryz.func11, Tryz.ntmps11
    go_wp2_with (fail)
    first | (go_region_held3 (fun w' => w'.cell? ⟨w.heap.size, 0, none⟩ = some (.slice A0 p.Stacks.Nodes.length c0) ∧ w'.cell? ⟨w.heap.size, 1, none⟩ = some (.slice A1 p.Counts.length c1)) ((repeat' apply And.intro) <;> (first | ((repeat (first | assumption | with_reducible refine gro_keeps ?_ _ _ | with_reducible refine alloc_keeps ?_ _ | with_reducible refine drew_keeps ?_)); done) | (simp [go_sem]; done))) (first
    | (go_at_call 41; (with_reducible refine (profileOk_i (p := p) (Ty.up _ hx (by repeat (first | with_reducible exact Gro.refl _ | with_reducible exact Gro.refl_drew _ _ _ | with_reducible exact Gro.refl_drewN _ _ _ _ | assumption | with_reducible apply Gro.more | with_reducible apply Gro.alloc | with_reducible apply Gro.drew | with_reducible apply Gro.drewN))) (Ty.up _ hy (by repeat (first | with_reducible exact Gro.refl _ | with_reducible exact Gro.refl_drew _ _ _ | with_reducible exact Gro.refl_drewN _ _ _ _ | assumption | with_reducible apply Gro.more | with_reducible apply Gro.alloc | with_reducible apply Gro.drew | with_reducible apply Gro.drewN)))).mono ?_); rw [HP.out]; rintro e w1 ⟨rfl, os1, d1, rfl⟩)
    | (go_at_call 42; (with_reducible refine (in_i _ _ _ _).mono ?_); rw [HB.out]; rintro e w1 ⟨rfl, rfl⟩)
    | (go_at_call 20; (with_reducible refine (totalOf_i (p := p) (Ty.up _ hx (by repeat (first | with_reducible exact Gro.refl _ | with_reducible exact Gro.refl_drew _ _ _ | with_reducible exact Gro.refl_drewN _ _ _ _ | assumption | with_reducible apply Gro.more | with_reducible apply Gro.alloc | with_reducible apply Gro.drew | with_reducible apply Gro.drewN))) (Ty.up _ hy (by repeat (first | with_reducible exact Gro.refl _ | with_reducible exact Gro.refl_drew _ _ _ | with_reducible exact Gro.refl_drewN _ _ _ _ | assumption | with_reducible apply Gro.more | with_reducible apply Gro.alloc | with_reducible apply Gro.drew | with_reducible apply Gro.drewN)))).mono ?_); rw [HT.out]; rintro e w2 ⟨rfl, os2, d2, rfl⟩))) | fail
    all_goals go_wp2_with (fail)
    all_goals refine bodyPost_ret (v := .tuple #[.agg #[.slice none 0 0, .slice none 0 0], .bool false]) (by simp [results, Tryz.results11, go_sem]) rfl (ret_profile_bool HR.out (fresh_emptyP _ _) (by repeat (first | with_reducible exact Gro.refl _ | with_reducible exact Gro.refl_drew _ _ _ | with_reducible exact Gro.refl_drewN _ _ _ _ | assumption | with_reducible apply Gro.more | with_reducible apply Gro.alloc | with_reducible apply Gro.drew | with_reducible apply Gro.drewN)))
  · have hlt : T ≤ Q := by
      have := of_decide_eq_true ht
      rw [hT, hQ] at this
      exact this
    have hnlt : ¬ Q < T := by omega
    have hdl : decide (Q < T) = false := decide_eq_false hnlt
    obtain ⟨t, fine, hf⟩ : ∃ t fine, profR ((entriesOf p).map (sclE n)) = (t, fine) := ⟨_, _, rfl⟩
    have HR := Lib.hid (show scaleP p n = (t, fine) from by simp only [scaleP, hp, hb, ht, Bool.and_self, if_true]; exact hf)
    have hll := entriesOf_len p
    have hcl := Nat.le_of_eq (pOk_len hp)
    have HFIT := Lib.hid (show ∀ e ∈ entriesOf p, 0 ≤ e.Count * n ∧ e.Count * n ≤ 1000000000000 from fun e he => scale_fit hp hb ht he)
    have HSZ := Lib.hid (show ∀ (j : Nat) (e : DEntry), ((entriesOf p).map (sclE n))[j]? = some e → e.Stack.size ≤ 12 * p.Stacks.Nodes.length from fun j e h => scl_sz h)
    have hfr2 : frSum ((entriesOf p).map (sclE n)) ≤ 500000000000 := by rw [frSum_scl]; exact hfr
    obtain ⟨l, hl⟩ : ∃ l, entriesOf p = l := ⟨_, rfl⟩
    rw [hl] at hll hf hfr2 hfr
    have HL := Lib.hid hl
    have HF := Lib.hid hf
    have HP := Lib.hid hp
    have HB := Lib.hid hb
    clear hp hb ht hT hQ hl hf HQ
    go_enter Tryz.func11, Tryz.ntmps11
    go_wp2_with (fail)
    first | (go_region_held3 (fun w' => w'.cell? ⟨w.heap.size, 0, none⟩ = some (.slice A0 p.Stacks.Nodes.length c0) ∧ w'.cell? ⟨w.heap.size, 1, none⟩ = some (.slice A1 p.Counts.length c1)) ((repeat' apply And.intro) <;> (first | ((repeat (first | assumption | with_reducible refine gro_keeps ?_ _ _ | with_reducible refine alloc_keeps ?_ _ | with_reducible refine drew_keeps ?_)); done) | (simp [go_sem]; done))) (first
    | (go_at_call 41; (with_reducible refine (profileOk_i (p := p) (Ty.up _ hx (by repeat (first | with_reducible exact Gro.refl _ | with_reducible exact Gro.refl_drew _ _ _ | with_reducible exact Gro.refl_drewN _ _ _ _ | assumption | with_reducible apply Gro.more | with_reducible apply Gro.alloc | with_reducible apply Gro.drew | with_reducible apply Gro.drewN))) (Ty.up _ hy (by repeat (first | with_reducible exact Gro.refl _ | with_reducible exact Gro.refl_drew _ _ _ | with_reducible exact Gro.refl_drewN _ _ _ _ | assumption | with_reducible apply Gro.more | with_reducible apply Gro.alloc | with_reducible apply Gro.drew | with_reducible apply Gro.drewN)))).mono ?_); rw [HP.out]; rintro e w1 ⟨rfl, os1, d1, rfl⟩)
    | (go_at_call 42; (with_reducible refine (in_i _ _ _ _).mono ?_); rw [HB.out]; rintro e w1 ⟨rfl, rfl⟩)
    | (go_at_call 20; (with_reducible refine (totalOf_i (p := p) (Ty.up _ hx (by repeat (first | with_reducible exact Gro.refl _ | with_reducible exact Gro.refl_drew _ _ _ | with_reducible exact Gro.refl_drewN _ _ _ _ | assumption | with_reducible apply Gro.more | with_reducible apply Gro.alloc | with_reducible apply Gro.drew | with_reducible apply Gro.drewN))) (Ty.up _ hy (by repeat (first | with_reducible exact Gro.refl _ | with_reducible exact Gro.refl_drew _ _ _ | with_reducible exact Gro.refl_drewN _ _ _ _ | assumption | with_reducible apply Gro.more | with_reducible apply Gro.alloc | with_reducible apply Gro.drew | with_reducible apply Gro.drewN)))).mono ?_); rw [HT.out]; rintro e w2 ⟨rfl, os2, d2, rfl⟩))) | fail
    go_wp2_with (fail)
    refine (entriesOf_i (p := p) (Ty.up _ hx (by repeat (first | with_reducible exact Gro.refl _ | with_reducible exact Gro.refl_drew _ _ _ | with_reducible exact Gro.refl_drewN _ _ _ _ | assumption | with_reducible apply Gro.more | with_reducible apply Gro.alloc | with_reducible apply Gro.drew | with_reducible apply Gro.drewN))) (Ty.up _ hy (by repeat (first | with_reducible exact Gro.refl _ | with_reducible exact Gro.refl_drew _ _ _ | with_reducible exact Gro.refl_drewN _ _ _ _ | assumption | with_reducible apply Gro.more | with_reducible apply Gro.alloc | with_reducible apply Gro.drew | with_reducible apply Gro.drewN))) (by omega)).mono ?_
    rw [HL.out]
    rintro e w3 ⟨B3, b3, rfl, hF3, os3, d3, rfl⟩
    go_wp2_with (fail)
    have hl64 : l.length ≤ 1099511627776 := by omega
    obtain ⟨X, hX⟩ : ∃ X, gro (gro ((w.alloc (.cells #[.slice A0 p.Stacks.Nodes.length c0, .slice A1 p.Counts.length c1] 33)).alloc (.cells #[.slice none 0 0, .slice none 0 0] 33)) os1 d1) os2 d2 = X := ⟨_, rfl⟩
    have HF0 : Fresh (tEntry.sl 48) X (gro X os3 d3) [.slice B3 l.length b3] l := by rw [← hX]; exact hF3
    rw [hX]
    have HX := Lib.hid hX
    clear hX hF3
    go_loopw [7, 28] (fun _ b wr => ∃ (j : Nat) (os : Array Obj) (d : Nat), b = .int .i64 j ∧ j ≤ l.length ∧ wr = gro X os d ∧ Fresh (tEntry.sl 48) X (gro X os d) [.slice B3 l.length b3] (partS n l j)) (fun _ b _ => l.length - (intOf b).toNat)
    case atStart => exact ⟨0, os3, d3, rfl, by omega, rfl, by rw [partS_zero]; exact HF0⟩
    case round =>
      obtain ⟨j, os, d, rfl, hj, rfl, hF⟩ := hrel
      by_cases hlt : j < l.length
      · obtain ⟨x, hx⟩ : ∃ x, l[j]? = some x := ⟨_, List.getElem?_eq_getElem hlt⟩
        have hfit := HFIT.out x (by rw [HL.out]; exact List.mem_of_getElem? hx)
        obtain ⟨hf1, hf2⟩ := hfit
        obtain ⟨g, hBe, hgl, hfz, hc0, hc1, hGs, hFs⟩ := set_ent (y := x.Count * n) hF (Gro.of X os d) (partS_get hx) ⟨by omega, by omega⟩
        subst hBe
        have hw : IntKind.i64.wrap (x.Count * n) = x.Count * n := IntWalk.i64_in _ ⟨by omega, by omega⟩
        have hji : (j : Int) < (l.length : Int) := by omega
        have hst := partS_set (n := n) hx
        have HXE := Lib.hid hx
        clear hx hF
        obtain ⟨os', d', hse⟩ := hGs
        rw [hse] at hFs
        have HSE := Lib.hid hse
        have HFS := Lib.hid (show Fresh (tEntry.sl 48) X (gro X os' d') [.slice (some ⟨g, 0, none⟩) l.length b3] (partS n l (j + 1)) from by rw [← hst]; exact hFs)
        clear hse hst hFs HF0
        go_wp2_with (fail)
        refine ⟨⟨j + 1, os', d', by go_num, by omega, HSE.out, HFS.out⟩, by simp [intOf]; omega⟩
      · obtain rfl : j = l.length := by omega
        rw [partS_all] at hF
        obtain rfl := HX.out
        clear HX HF0
        have hLn : l.length = (l.map (sclE n)).length := by rw [List.length_map]
        have HLN := Lib.hid hLn
        clear hLn
        go_wp2_with (go_at_call 18; (with_reducible refine (profOfN_i (L := l.map (sclE n)) HLN.out hF.read (fun j e h => by have := HSZ.out j e (by rw [HL.out]; exact h); omega) hfr2 (Gro.cell (by repeat (first | with_reducible exact Gro.refl _ | with_reducible exact Gro.refl_drew _ _ _ | with_reducible exact Gro.refl_drewN _ _ _ _ | assumption | with_reducible apply Gro.more | with_reducible apply Gro.alloc | with_reducible apply Gro.drew | with_reducible apply Gro.drewN)) HM.out)).mono ?_); rw [HF.out]; rintro e w4 ⟨A6, c6, A7, c7, rfl, hF6, os6, d6, rfl⟩)
        refine bodyPost_ret (v := .tuple #[.agg #[.slice A6 t.Stacks.Nodes.length c6, .slice A7 t.Counts.length c7], .bool fine]) (by simp [results, Tryz.results11, go_sem]) rfl (ret_profile_bool HR.out ?_ (by repeat (first | with_reducible exact Gro.refl _ | with_reducible exact Gro.refl_drew _ _ _ | with_reducible exact Gro.refl_drewN _ _ _ _ | assumption | with_reducible apply Gro.more | with_reducible apply Gro.alloc | with_reducible apply Gro.drew | with_reducible apply Gro.drewN)))
        exact (hF6.frN.same (by repeat (first | with_reducible exact Same.refl _ _ _ | ((with_reducible refine same_hi ?_ ?_) <;> (simp <;> omega)) | ((with_reducible refine same_gro ?_ ?_); rotate_left; (simp <;> omega)) | ((with_reducible refine same_alloc ?_ ?_); rotate_left; (simp <;> omega)) | ((with_reducible refine same_alloc_lo ?_ ?_ ?_); rotate_left; (simp <;> omega); (simp <;> omega)) | with_reducible apply same_drew_l | ((with_reducible refine Same.more ?_ ?_ _ _); rotate_left; simp <;> omega) | ((with_reducible refine Same.alloc ?_ ?_ _); rotate_left; simp <;> omega) | with_reducible apply Same.drew | with_reducible apply Same.drewN))).fresh (by simp <;> omega)
set_option maxRecDepth 100000 in
set_option maxHeartbeats 8000000 in
theorem scale_s {p : DProfile} {n : Int} {w : World} {A0 A1 : Option Addr} {c0 c1 : Nat} (hx : (tNode.sl 92).R w w.heap.size [.slice A0 p.Stacks.Nodes.length c0] p.Stacks.Nodes) (hy : (intT.sl 3).R w w.heap.size [.slice A1 p.Counts.length c1] p.Counts) (hn : p.Stacks.Nodes.length ≤ 16777216) (hfr : frSum (entriesOf p) ≤ 500000000000) :
    Calls Tryz.prog 9 #[.agg #[.slice A0 p.Stacks.Nodes.length c0, .slice A1 p.Counts.length c1], .int .i64 n] w (RetProfileBool (scaleP p n) w) := by
  cases hp : profileOk p
  · have HR := Lib.hid (show scaleP p n = (emptyP, false) from by simp [scaleP, hp])
    have HP := Lib.hid hp
    clear hp
    go_enter Tryz.func9, Tryz.ntmps9
    go_wp2_with (fail)
    first | (go_region_law (first
    | (go_simp; go_at_call 35; (with_reducible refine (profileOk_s (p := p) (Ty.up _ hx (by repeat (first | with_reducible exact Gro.refl _ | with_reducible exact Gro.refl_drew _ _ _ | with_reducible exact Gro.refl_drewN _ _ _ _ | assumption | with_reducible apply Gro.more | with_reducible apply Gro.alloc | with_reducible apply Gro.drew | with_reducible apply Gro.drewN))) (Ty.up _ hy (by repeat (first | with_reducible exact Gro.refl _ | with_reducible exact Gro.refl_drew _ _ _ | with_reducible exact Gro.refl_drewN _ _ _ _ | assumption | with_reducible apply Gro.more | with_reducible apply Gro.alloc | with_reducible apply Gro.drew | with_reducible apply Gro.drewN)))).mono ?_); rw [HP.out]; rintro e w1 ⟨rfl, os1, d1, rfl⟩))) | fail
    all_goals go_wp2_with (fail)
    all_goals refine bodyPost_ret (v := .tuple #[.agg #[.slice none 0 0, .slice none 0 0], .bool false]) (by simp [results, Tryz.results9, go_sem]) rfl (ret_profile_bool HR.out (fresh_emptyP _ _) (by repeat (first | with_reducible exact Gro.refl _ | with_reducible exact Gro.refl_drew _ _ _ | with_reducible exact Gro.refl_drewN _ _ _ _ | assumption | with_reducible apply Gro.more | with_reducible apply Gro.alloc | with_reducible apply Gro.drew | with_reducible apply Gro.drewN)))
  cases hb : btw n 1 1000000000000
  · have HR := Lib.hid (show scaleP p n = (emptyP, false) from by simp [scaleP, hp, hb])
    have HP := Lib.hid hp
    have HB := Lib.hid hb
    clear hp hb
    go_enter Tryz.func9, Tryz.ntmps9
    go_wp2_with (fail)
    first | (go_region_law (first
    | (go_simp; go_at_call 35; (with_reducible refine (profileOk_s (p := p) (Ty.up _ hx (by repeat (first | with_reducible exact Gro.refl _ | with_reducible exact Gro.refl_drew _ _ _ | with_reducible exact Gro.refl_drewN _ _ _ _ | assumption | with_reducible apply Gro.more | with_reducible apply Gro.alloc | with_reducible apply Gro.drew | with_reducible apply Gro.drewN))) (Ty.up _ hy (by repeat (first | with_reducible exact Gro.refl _ | with_reducible exact Gro.refl_drew _ _ _ | with_reducible exact Gro.refl_drewN _ _ _ _ | assumption | with_reducible apply Gro.more | with_reducible apply Gro.alloc | with_reducible apply Gro.drew | with_reducible apply Gro.drewN)))).mono ?_); rw [HP.out]; rintro e w1 ⟨rfl, os1, d1, rfl⟩)
    | (go_simp; go_at_call 36; (with_reducible refine (in_s _ _ _ _).mono ?_); rw [HB.out]; rintro e w1 ⟨rfl, rfl⟩))) | fail
    all_goals go_wp2_with (fail)
    all_goals refine bodyPost_ret (v := .tuple #[.agg #[.slice none 0 0, .slice none 0 0], .bool false]) (by simp [results, Tryz.results9, go_sem]) rfl (ret_profile_bool HR.out (fresh_emptyP _ _) (by repeat (first | with_reducible exact Gro.refl _ | with_reducible exact Gro.refl_drew _ _ _ | with_reducible exact Gro.refl_drewN _ _ _ _ | assumption | with_reducible apply Gro.more | with_reducible apply Gro.alloc | with_reducible apply Gro.drew | with_reducible apply Gro.drewN)))
  have hb1 := btw_iff.1 hb
  obtain ⟨hn1, hn2⟩ := hb1
  have hn0 : n ≠ 0 := by omega
  obtain ⟨T, hT⟩ : ∃ T, totalOf p = T := ⟨_, rfl⟩
  have HT := Lib.hid hT
  obtain ⟨Q, hQ⟩ : ∃ Q, Int.tdiv 1000000000000 n = Q := ⟨_, rfl⟩
  have HQ := Lib.hid hQ
  have hQd : (1000000000000 : Int) / n = Q := by rw [← hQ, Int.tdiv_eq_ediv_of_nonneg (by omega)]
  have hQ0 : 0 ≤ Q := by rw [← hQd]; exact Int.ediv_nonneg (by omega) (by omega)
  have hQ1 : Q ≤ 1000000000000 := by rw [← hQd]; exact Int.ediv_le_self _ (by omega)
  have HQD := Lib.hid hQd
  have hqw : IntKind.i64.wrap (Int.tdiv 1000000000000 n) = Q := by rw [hQ]; exact IntWalk.i64_in _ ⟨by omega, by omega⟩
  have hnz : (n == 0) = false := by simp only [beq_eq_false_iff_ne]; exact hn0
  clear hQd
  cases ht : decide (totalOf p ≤ Int.tdiv 1000000000000 n)
  · have HR := Lib.hid (show scaleP p n = (emptyP, false) from by simp [scaleP, hp, hb, ht])
    have hlt : Q < T := by
      have := of_decide_eq_false ht
      rw [hT, hQ] at this
      omega
    have hdl : decide (Q < T) = true := decide_eq_true hlt
    have HP := Lib.hid hp
    have HB := Lib.hid hb
    clear hp hb ht hT hQ HQ
    go_enter Tryz.func9, Tryz.ntmps9
    go_wp2_with (fail)
    first | (go_region_held3 (fun w' => w'.cell? ⟨w.heap.size, 0, none⟩ = some (.slice A0 p.Stacks.Nodes.length c0) ∧ w'.cell? ⟨w.heap.size, 1, none⟩ = some (.slice A1 p.Counts.length c1)) ((repeat' apply And.intro) <;> (first | ((repeat (first | assumption | with_reducible refine gro_keeps ?_ _ _ | with_reducible refine alloc_keeps ?_ _ | with_reducible refine drew_keeps ?_)); done) | (simp [go_sem]; done))) (first
    | (go_at_call 35; (with_reducible refine (profileOk_s (p := p) (Ty.up _ hx (by repeat (first | with_reducible exact Gro.refl _ | with_reducible exact Gro.refl_drew _ _ _ | with_reducible exact Gro.refl_drewN _ _ _ _ | assumption | with_reducible apply Gro.more | with_reducible apply Gro.alloc | with_reducible apply Gro.drew | with_reducible apply Gro.drewN))) (Ty.up _ hy (by repeat (first | with_reducible exact Gro.refl _ | with_reducible exact Gro.refl_drew _ _ _ | with_reducible exact Gro.refl_drewN _ _ _ _ | assumption | with_reducible apply Gro.more | with_reducible apply Gro.alloc | with_reducible apply Gro.drew | with_reducible apply Gro.drewN)))).mono ?_); rw [HP.out]; rintro e w1 ⟨rfl, os1, d1, rfl⟩)
    | (go_at_call 36; (with_reducible refine (in_s _ _ _ _).mono ?_); rw [HB.out]; rintro e w1 ⟨rfl, rfl⟩)
    | (go_at_call 37; (with_reducible refine (totalOf_s (p := p) (Ty.up _ hx (by repeat (first | with_reducible exact Gro.refl _ | with_reducible exact Gro.refl_drew _ _ _ | with_reducible exact Gro.refl_drewN _ _ _ _ | assumption | with_reducible apply Gro.more | with_reducible apply Gro.alloc | with_reducible apply Gro.drew | with_reducible apply Gro.drewN))) (Ty.up _ hy (by repeat (first | with_reducible exact Gro.refl _ | with_reducible exact Gro.refl_drew _ _ _ | with_reducible exact Gro.refl_drewN _ _ _ _ | assumption | with_reducible apply Gro.more | with_reducible apply Gro.alloc | with_reducible apply Gro.drew | with_reducible apply Gro.drewN)))).mono ?_); rw [HT.out]; rintro e w2 ⟨rfl, os2, d2, rfl⟩))) | fail
    all_goals go_wp2_with (fail)
    all_goals refine bodyPost_ret (v := .tuple #[.agg #[.slice none 0 0, .slice none 0 0], .bool false]) (by simp [results, Tryz.results9, go_sem]) rfl (ret_profile_bool HR.out (fresh_emptyP _ _) (by repeat (first | with_reducible exact Gro.refl _ | with_reducible exact Gro.refl_drew _ _ _ | with_reducible exact Gro.refl_drewN _ _ _ _ | assumption | with_reducible apply Gro.more | with_reducible apply Gro.alloc | with_reducible apply Gro.drew | with_reducible apply Gro.drewN)))
  · have hlt : T ≤ Q := by
      have := of_decide_eq_true ht
      rw [hT, hQ] at this
      exact this
    have hnlt : ¬ Q < T := by omega
    have hdl : decide (Q < T) = false := decide_eq_false hnlt
    obtain ⟨t, fine, hf⟩ : ∃ t fine, profR ((entriesOf p).map (sclE n)) = (t, fine) := ⟨_, _, rfl⟩
    have HR := Lib.hid (show scaleP p n = (t, fine) from by simp only [scaleP, hp, hb, ht, Bool.and_self, if_true]; exact hf)
    have hll := entriesOf_len p
    have hcl := Nat.le_of_eq (pOk_len hp)
    have HFIT := Lib.hid (show ∀ e ∈ entriesOf p, 0 ≤ e.Count * n ∧ e.Count * n ≤ 1000000000000 from fun e he => scale_fit hp hb ht he)
    have HSZ := Lib.hid (show ∀ (j : Nat) (e : DEntry), ((entriesOf p).map (sclE n))[j]? = some e → e.Stack.size ≤ 12 * p.Stacks.Nodes.length from fun j e h => scl_sz h)
    have hfr2 : frSum ((entriesOf p).map (sclE n)) ≤ 500000000000 := by rw [frSum_scl]; exact hfr
    obtain ⟨l, hl⟩ : ∃ l, entriesOf p = l := ⟨_, rfl⟩
    rw [hl] at hll hf hfr2 hfr
    have HL := Lib.hid hl
    have HF := Lib.hid hf
    have HP := Lib.hid hp
    have HB := Lib.hid hb
    clear hp hb ht hT hQ hl hf HQ
    go_enter Tryz.func9, Tryz.ntmps9
    go_wp2_with (fail)
    first | (go_region_held3 (fun w' => w'.cell? ⟨w.heap.size, 0, none⟩ = some (.slice A0 p.Stacks.Nodes.length c0) ∧ w'.cell? ⟨w.heap.size, 1, none⟩ = some (.slice A1 p.Counts.length c1)) ((repeat' apply And.intro) <;> (first | ((repeat (first | assumption | with_reducible refine gro_keeps ?_ _ _ | with_reducible refine alloc_keeps ?_ _ | with_reducible refine drew_keeps ?_)); done) | (simp [go_sem]; done))) (first
    | (go_at_call 35; (with_reducible refine (profileOk_s (p := p) (Ty.up _ hx (by repeat (first | with_reducible exact Gro.refl _ | with_reducible exact Gro.refl_drew _ _ _ | with_reducible exact Gro.refl_drewN _ _ _ _ | assumption | with_reducible apply Gro.more | with_reducible apply Gro.alloc | with_reducible apply Gro.drew | with_reducible apply Gro.drewN))) (Ty.up _ hy (by repeat (first | with_reducible exact Gro.refl _ | with_reducible exact Gro.refl_drew _ _ _ | with_reducible exact Gro.refl_drewN _ _ _ _ | assumption | with_reducible apply Gro.more | with_reducible apply Gro.alloc | with_reducible apply Gro.drew | with_reducible apply Gro.drewN)))).mono ?_); rw [HP.out]; rintro e w1 ⟨rfl, os1, d1, rfl⟩)
    | (go_at_call 36; (with_reducible refine (in_s _ _ _ _).mono ?_); rw [HB.out]; rintro e w1 ⟨rfl, rfl⟩)
    | (go_at_call 37; (with_reducible refine (totalOf_s (p := p) (Ty.up _ hx (by repeat (first | with_reducible exact Gro.refl _ | with_reducible exact Gro.refl_drew _ _ _ | with_reducible exact Gro.refl_drewN _ _ _ _ | assumption | with_reducible apply Gro.more | with_reducible apply Gro.alloc | with_reducible apply Gro.drew | with_reducible apply Gro.drewN))) (Ty.up _ hy (by repeat (first | with_reducible exact Gro.refl _ | with_reducible exact Gro.refl_drew _ _ _ | with_reducible exact Gro.refl_drewN _ _ _ _ | assumption | with_reducible apply Gro.more | with_reducible apply Gro.alloc | with_reducible apply Gro.drew | with_reducible apply Gro.drewN)))).mono ?_); rw [HT.out]; rintro e w2 ⟨rfl, os2, d2, rfl⟩))) | fail
    go_wp2_with (fail)
    refine (entriesOf_s (p := p) (Ty.up _ hx (by repeat (first | with_reducible exact Gro.refl _ | with_reducible exact Gro.refl_drew _ _ _ | with_reducible exact Gro.refl_drewN _ _ _ _ | assumption | with_reducible apply Gro.more | with_reducible apply Gro.alloc | with_reducible apply Gro.drew | with_reducible apply Gro.drewN))) (Ty.up _ hy (by repeat (first | with_reducible exact Gro.refl _ | with_reducible exact Gro.refl_drew _ _ _ | with_reducible exact Gro.refl_drewN _ _ _ _ | assumption | with_reducible apply Gro.more | with_reducible apply Gro.alloc | with_reducible apply Gro.drew | with_reducible apply Gro.drewN))) (by omega)).mono ?_
    rw [HL.out]
    rintro e w3 ⟨B3, b3, rfl, hF3, os3, d3, rfl⟩
    go_wp2_with (fail)
    have hl64 : l.length ≤ 1099511627776 := by omega
    obtain ⟨X, hX⟩ : ∃ X, gro (gro ((w.alloc (.cells #[.slice A0 p.Stacks.Nodes.length c0, .slice A1 p.Counts.length c1] 33)).alloc (.cells #[.slice none 0 0, .slice none 0 0] 33)) os1 d1) os2 d2 = X := ⟨_, rfl⟩
    have HF0 : Fresh (tEntry.sl 48) X (gro X os3 d3) [.slice B3 l.length b3] l := by rw [← hX]; exact hF3
    rw [hX]
    have HX := Lib.hid hX
    clear hX hF3
    go_loopw [7] (fun b wr => ∃ (j : Nat) (os : Array Obj) (d : Nat), b = .int .i64 j ∧ j ≤ l.length ∧ wr = gro X os d ∧ Fresh (tEntry.sl 48) X (gro X os d) [.slice B3 l.length b3] (partS n l j)) (fun b _ => l.length - (intOf b).toNat)
    case atStart => exact ⟨0, os3, d3, rfl, by omega, rfl, by rw [partS_zero]; exact HF0⟩
    case round =>
      obtain ⟨j, os, d, rfl, hj, rfl, hF⟩ := hrel
      by_cases hlt : j < l.length
      · obtain ⟨x, hx⟩ : ∃ x, l[j]? = some x := ⟨_, List.getElem?_eq_getElem hlt⟩
        have hfit := HFIT.out x (by rw [HL.out]; exact List.mem_of_getElem? hx)
        obtain ⟨hf1, hf2⟩ := hfit
        obtain ⟨g, hBe, hgl, hfz, hc0, hc1, hGs, hFs⟩ := set_ent (y := x.Count * n) hF (Gro.of X os d) (partS_get hx) ⟨by omega, by omega⟩
        subst hBe
        have hw : IntKind.i64.wrap (x.Count * n) = x.Count * n := IntWalk.i64_in _ ⟨by omega, by omega⟩
        have hji : (j : Int) < (l.length : Int) := by omega
        have hst := partS_set (n := n) hx
        have HXE := Lib.hid hx
        clear hx hF
        obtain ⟨os', d', hse⟩ := hGs
        rw [hse] at hFs
        have HSE := Lib.hid hse
        have HFS := Lib.hid (show Fresh (tEntry.sl 48) X (gro X os' d') [.slice (some ⟨g, 0, none⟩) l.length b3] (partS n l (j + 1)) from by rw [← hst]; exact hFs)
        clear hse hst hFs HF0
        go_wp2_with (fail)
        refine ⟨⟨j + 1, os', d', by go_num, by omega, HSE.out, HFS.out⟩, by simp [intOf]; omega⟩
      · obtain rfl : j = l.length := by omega
        rw [partS_all] at hF
        obtain rfl := HX.out
        clear HX HF0
        have hLn : l.length = (l.map (sclE n)).length := by rw [List.length_map]
        have HLN := Lib.hid hLn
        clear hLn
        go_wp2_with (go_at_call 24; (with_reducible refine (profOfN_s (L := l.map (sclE n)) HLN.out hF.read (fun j e h => by have := HSZ.out j e (by rw [HL.out]; exact h); omega) hfr2 ).mono ?_); rw [HF.out]; rintro e w4 ⟨A6, c6, A7, c7, rfl, hF6, os6, d6, rfl⟩)
        refine bodyPost_ret (v := .tuple #[.agg #[.slice A6 t.Stacks.Nodes.length c6, .slice A7 t.Counts.length c7], .bool fine]) (by simp [results, Tryz.results9, go_sem]) rfl (ret_profile_bool HR.out ?_ (by repeat (first | with_reducible exact Gro.refl _ | with_reducible exact Gro.refl_drew _ _ _ | with_reducible exact Gro.refl_drewN _ _ _ _ | assumption | with_reducible apply Gro.more | with_reducible apply Gro.alloc | with_reducible apply Gro.drew | with_reducible apply Gro.drewN)))
        exact (hF6.frN.same (by repeat (first | with_reducible exact Same.refl _ _ _ | ((with_reducible refine same_hi ?_ ?_) <;> (simp <;> omega)) | ((with_reducible refine same_gro ?_ ?_); rotate_left; (simp <;> omega)) | ((with_reducible refine same_alloc ?_ ?_); rotate_left; (simp <;> omega)) | ((with_reducible refine same_alloc_lo ?_ ?_ ?_); rotate_left; (simp <;> omega); (simp <;> omega)) | with_reducible apply same_drew_l | ((with_reducible refine Same.more ?_ ?_ _ _); rotate_left; simp <;> omega) | ((with_reducible refine Same.alloc ?_ ?_ _); rotate_left; simp <;> omega) | with_reducible apply Same.drew | with_reducible apply Same.drewN))).fresh (by simp <;> omega)
end Go.Proofs.YtdlkoffandhclaaGreatDoor
