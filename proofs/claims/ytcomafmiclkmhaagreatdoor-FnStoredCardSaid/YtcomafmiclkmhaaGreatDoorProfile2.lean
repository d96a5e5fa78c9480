/-
  PROFILES, PART 2: copyProfile, AddStack of the program and of the reference.
-/
import Derived.Test.YtcomafmiclkmhaaGreatDoorProfile
import Derived.Test.YtcomafmiclkmhaaGreatDoorStacks3
import Derived.Test.YtcomafmiclkmhaaGreatDoorBox3
import Derived.Deep.RegionLaw
import Derived.Deep.LoopGhost
set_option linter.unusedVariables false
set_option linter.unusedSimpArgs false
namespace Go.Proofs.YtcomafmiclkmhaaGreatDoor
open Go.RowKit
theorem elInt : Elem Tryz.prog 27 3 intT 8 := by
  obtain ⟨i0, hi, hz0, hz1, hz2⟩ := info_parts toIntS_info
  exact ⟨Tryz.underlying27, ⟨i0, _, hi, hz0, hz1, hz2, rfl⟩, by decide⟩
theorem profile_of {w W : World} {p : DProfile} {A0 A1 : Option Addr} {c0 c1 lo0 hi0 lo1 hi1 n1 : Nat} (h0 : FrN tStacks lo0 hi0 W [.slice A0 p.Stacks.Nodes.length c0] p.Stacks) (h1 : Fr2N (intT.sl 3) lo1 hi1 n1 W [.slice A1 p.Counts.length c1] p.Counts)
    (hd : (hi0 ≤ lo1 ∨ hi1 ≤ lo0) ∧ hi0 ≤ n1) (hw0 : w.heap.size ≤ lo0) (hw1 : w.heap.size ≤ lo1) (hw2 : w.heap.size ≤ n1) : Fresh tProfile w W [.slice A0 p.Stacks.Nodes.length c0, .slice A1 p.Counts.length c1] p := by
  obtain ⟨S0, hO0, hN0, hI0⟩ := h0
  obtain ⟨S1, hO1, hN1, hI1⟩ := h1
  refine ⟨_, tProfile_mkOd hO0 hO1, List.nodup_append.2 ⟨hN0, hN1, fun a ha b hb => ?_⟩, fun b hb => ?_⟩
  · have h1 := hI0 a ha
    have h2 := hI1 b hb
    omega
  · rcases List.mem_append.1 hb with hb | hb
    · have := hI0 b hb; omega
    · have := hI1 b hb; omega
set_option maxRecDepth 100000 in
set_option maxHeartbeats 2000000 in
theorem copyProfile_i {p : DProfile} {w : World} {A0 A1 : Option Addr} {c0 c1 : Nat} (hx : (tNode.sl 48).R w w.heap.size [.slice A0 p.Stacks.Nodes.length c0] p.Stacks.Nodes) (hy : (intT.sl 3).R w w.heap.size [.slice A1 p.Counts.length c1] p.Counts) (hn : p.Stacks.Nodes.length ≤ 1099511627776) (hm : p.Counts.length ≤ 1099511627776) :
    Calls Tryz.prog 57 #[.agg #[.slice A0 p.Stacks.Nodes.length c0, .slice A1 p.Counts.length c1]] w (RetProfile p w) := by
  go_enter Tryz.func57, Tryz.ntmps57
  go_wp2_with (fail)
  go_region_held3 (fun w' => w'.cell? ⟨w.heap.size, 0, none⟩ = some (.slice A0 p.Stacks.Nodes.length c0) ∧ w'.cell? ⟨w.heap.size, 1, none⟩ = some (.slice A1 p.Counts.length c1)) ((repeat' apply And.intro) <;> (first | ((repeat (first | assumption | with_reducible refine gro_keeps ?_ _ _ | with_reducible refine alloc_keeps ?_ _ | with_reducible refine drew_keeps ?_)); done) | (simp [go_sem]; done))) (first
    | (go_at_call 82; refine (copyStacks_i (t := p.Stacks) (Ty.up _ hx (by repeat (first | with_reducible exact Gro.refl _ | with_reducible exact Gro.refl_drew _ _ _ | with_reducible exact Gro.refl_drewN _ _ _ _ | assumption | with_reducible apply Gro.more | with_reducible apply Gro.alloc | with_reducible apply Gro.drew | with_reducible apply Gro.drewN))) hn).mono ?_; rintro e w1 ⟨B0, d0, rfl, hF0, os0, dd0, rfl⟩)
    | (refine step_append_over (objs := os0) (d1 := dd0) rfl (.tmp 6) (.tmp 8) elInt flat_int (by repeat (first | with_reducible exact Gro.refl _ | with_reducible exact Gro.refl_drew _ _ _ | with_reducible exact Gro.refl_drewN _ _ _ _ | assumption | with_reducible apply Gro.more | with_reducible apply Gro.alloc | with_reducible apply Gro.drew | with_reducible apply Gro.drewN)) (by simp) (Ty.up _ hy (by repeat (first | with_reducible exact Gro.refl _ | with_reducible exact Gro.refl_drew _ _ _ | with_reducible exact Gro.refl_drewN _ _ _ _ | assumption | with_reducible apply Gro.more | with_reducible apply Gro.alloc | with_reducible apply Gro.drew | with_reducible apply Gro.drewN))) rfl rfl rfl (by omega) (by omega) ?_; intro B1 d1 os2 os1 dd1 hos2 hF1)
    | (refine step_append_flat rfl (.tmp 6) (.tmp 8) elInt flat_int (fresh_empty2 (by repeat (first | with_reducible exact Gro.refl _ | with_reducible exact Gro.refl_drew _ _ _ | with_reducible exact Gro.refl_drewN _ _ _ _ | assumption | with_reducible apply Gro.more | with_reducible apply Gro.alloc | with_reducible apply Gro.drew | with_reducible apply Gro.drewN)) (Gro.refl _) (by simp)) (by repeat (first | with_reducible exact Gro.refl _ | with_reducible exact Gro.refl_drew _ _ _ | with_reducible exact Gro.refl_drewN _ _ _ _ | assumption | with_reducible apply Gro.more | with_reducible apply Gro.alloc | with_reducible apply Gro.drew | with_reducible apply Gro.drewN)) (Ty.up _ hy (by repeat (first | with_reducible exact Gro.refl _ | with_reducible exact Gro.refl_drew _ _ _ | with_reducible exact Gro.refl_drewN _ _ _ _ | assumption | with_reducible apply Gro.more | with_reducible apply Gro.alloc | with_reducible apply Gro.drew | with_reducible apply Gro.drewN))) rfl rfl rfl (Nat.zero_add _).symm (by omega) (by omega) ?_; intro B1 d1 os1 dd1 hF1))
  · go_wp2_with (fail)
    refine bodyPost_ret (v := .agg #[.slice B0 p.Stacks.Nodes.length d0, .slice B1 p.Counts.length d1]) (by simp [results, Tryz.results57, go_sem]) rfl ⟨B0, d0, B1, d1, rfl, ?_, (by repeat (first | with_reducible exact Gro.refl _ | with_reducible exact Gro.refl_drew _ _ _ | with_reducible exact Gro.refl_drewN _ _ _ _ | assumption | with_reducible apply Gro.more | with_reducible apply Gro.alloc | with_reducible apply Gro.drew | with_reducible apply Gro.drewN))⟩
    exact profile_of (hF0.frN.same (by repeat (first | with_reducible exact Same.refl _ _ _ | ((with_reducible refine Same.base ?_ ?_) <;> (simp <;> omega)) | ((with_reducible refine Same.more ?_ ?_ _ _); rotate_left; simp <;> omega) | ((with_reducible refine Same.alloc ?_ ?_ _); rotate_left; simp <;> omega) | with_reducible apply Same.drew | with_reducible apply Same.drewN))) (n1 := w.heap.size + 2 + os0.size) (hF1.frN.same (by repeat (first | with_reducible exact Same.refl _ _ _ | ((with_reducible refine Same.base ?_ ?_) <;> (simp <;> omega)) | ((with_reducible refine Same.more ?_ ?_ _ _); rotate_left; simp <;> omega) | ((with_reducible refine Same.alloc ?_ ?_ _); rotate_left; simp <;> omega) | with_reducible apply Same.drew | with_reducible apply Same.drewN))).two (by simp) (by simp; omega) (by simp; omega) (by omega)
  · go_wp2_with (fail)
    refine bodyPost_ret (v := .agg #[.slice B0 p.Stacks.Nodes.length d0, .slice B1 p.Counts.length d1]) (by simp [results, Tryz.results57, go_sem]) rfl ⟨B0, d0, B1, d1, rfl, ?_, (by repeat (first | with_reducible exact Gro.refl _ | with_reducible exact Gro.refl_drew _ _ _ | with_reducible exact Gro.refl_drewN _ _ _ _ | assumption | with_reducible apply Gro.more | with_reducible apply Gro.alloc | with_reducible apply Gro.drew | with_reducible apply Gro.drewN))⟩
    exact profile_of (hF0.frN.same (by repeat (first | with_reducible exact Same.refl _ _ _ | ((with_reducible refine Same.base ?_ ?_) <;> (simp <;> omega)) | ((with_reducible refine Same.more ?_ ?_ _ _); rotate_left; simp <;> omega) | ((with_reducible refine Same.alloc ?_ ?_ _); rotate_left; simp <;> omega) | with_reducible apply Same.drew | with_reducible apply Same.drewN))) (hF1.same (by simp only [gro_gro]; exact Same.base (by simp) (by simp)) (by simp only [gro_gro]; exact Same.base (by simp) (by simp <;> omega))) (by simp) (by simp; omega) (by simp; omega) (by simp; omega)
set_option maxRecDepth 100000 in
set_option maxHeartbeats 2000000 in
theorem copyProfile_s {p : DProfile} {w : World} {A0 A1 : Option Addr} {c0 c1 : Nat} (hx : (tNode.sl 48).R w w.heap.size [.slice A0 p.Stacks.Nodes.length c0] p.Stacks.Nodes) (hy : (intT.sl 3).R w w.heap.size [.slice A1 p.Counts.length c1] p.Counts) (hn : p.Stacks.Nodes.length ≤ 1099511627776) (hm : p.Counts.length ≤ 1099511627776) :
    Calls Tryz.prog 51 #[.agg #[.slice A0 p.Stacks.Nodes.length c0, .slice A1 p.Counts.length c1]] w (RetProfile p w) := by
  go_enter Tryz.func51, Tryz.ntmps51
  go_wp2_with (fail)
  go_region_held3 (fun w' => w'.cell? ⟨w.heap.size, 0, none⟩ = some (.slice A0 p.Stacks.Nodes.length c0) ∧ w'.cell? ⟨w.heap.size, 1, none⟩ = some (.slice A1 p.Counts.length c1)) ((repeat' apply And.intro) <;> (first | ((repeat (first | assumption | with_reducible refine gro_keeps ?_ _ _ | with_reducible refine alloc_keeps ?_ _ | with_reducible refine drew_keeps ?_)); done) | (simp [go_sem]; done))) (first
    | (go_at_call 77; refine (copyStacks_s (t := p.Stacks) (Ty.up _ hx (by repeat (first | with_reducible exact Gro.refl _ | with_reducible exact Gro.refl_drew _ _ _ | with_reducible exact Gro.refl_drewN _ _ _ _ | assumption | with_reducible apply Gro.more | with_reducible apply Gro.alloc | with_reducible apply Gro.drew | with_reducible apply Gro.drewN))) hn).mono ?_; rintro e w1 ⟨B0, d0, rfl, hF0, os0, dd0, rfl⟩)
    | (refine step_append_over (objs := os0) (d1 := dd0) rfl (.tmp 6) (.tmp 8) elInt flat_int (by repeat (first | with_reducible exact Gro.refl _ | with_reducible exact Gro.refl_drew _ _ _ | with_reducible exact Gro.refl_drewN _ _ _ _ | assumption | with_reducible apply Gro.more | with_reducible apply Gro.alloc | with_reducible apply Gro.drew | with_reducible apply Gro.drewN)) (by simp) (Ty.up _ hy (by repeat (first | with_reducible exact Gro.refl _ | with_reducible exact Gro.refl_drew _ _ _ | with_reducible exact Gro.refl_drewN _ _ _ _ | assumption | with_reducible apply Gro.more | with_reducible apply Gro.alloc | with_reducible apply Gro.drew | with_reducible apply Gro.drewN))) rfl rfl rfl (by omega) (by omega) ?_; intro B1 d1 os2 os1 dd1 hos2 hF1)
    | (refine step_append_flat rfl (.tmp 6) (.tmp 8) elInt flat_int (fresh_empty2 (by repeat (first | with_reducible exact Gro.refl _ | with_reducible exact Gro.refl_drew _ _ _ | with_reducible exact Gro.refl_drewN _ _ _ _ | assumption | with_reducible apply Gro.more | with_reducible apply Gro.alloc | with_reducible apply Gro.drew | with_reducible apply Gro.drewN)) (Gro.refl _) (by simp)) (by repeat (first | with_reducible exact Gro.refl _ | with_reducible exact Gro.refl_drew _ _ _ | with_reducible exact Gro.refl_drewN _ _ _ _ | assumption | with_reducible apply Gro.more | with_reducible apply Gro.alloc | with_reducible apply Gro.drew | with_reducible apply Gro.drewN)) (Ty.up _ hy (by repeat (first | with_reducible exact Gro.refl _ | with_reducible exact Gro.refl_drew _ _ _ | with_reducible exact Gro.refl_drewN _ _ _ _ | assumption | with_reducible apply Gro.more | with_reducible apply Gro.alloc | with_reducible apply Gro.drew | with_reducible apply Gro.drewN))) rfl rfl rfl (Nat.zero_add _).symm (by omega) (by omega) ?_; intro B1 d1 os1 dd1 hF1))
  · go_wp2_with (fail)
    refine bodyPost_ret (v := .agg #[.slice B0 p.Stacks.Nodes.length d0, .slice B1 p.Counts.length d1]) (by simp [results, Tryz.results51, go_sem]) rfl ⟨B0, d0, B1, d1, rfl, ?_, (by repeat (first | with_reducible exact Gro.refl _ | with_reducible exact Gro.refl_drew _ _ _ | with_reducible exact Gro.refl_drewN _ _ _ _ | assumption | with_reducible apply Gro.more | with_reducible apply Gro.alloc | with_reducible apply Gro.drew | with_reducible apply Gro.drewN))⟩
    exact profile_of (hF0.frN.same (by repeat (first | with_reducible exact Same.refl _ _ _ | ((with_reducible refine Same.base ?_ ?_) <;> (simp <;> omega)) | ((with_reducible refine Same.more ?_ ?_ _ _); rotate_left; simp <;> omega) | ((with_reducible refine Same.alloc ?_ ?_ _); rotate_left; simp <;> omega) | with_reducible apply Same.drew | with_reducible apply Same.drewN))) (n1 := w.heap.size + 2 + os0.size) (hF1.frN.same (by repeat (first | with_reducible exact Same.refl _ _ _ | ((with_reducible refine Same.base ?_ ?_) <;> (simp <;> omega)) | ((with_reducible refine Same.more ?_ ?_ _ _); rotate_left; simp <;> omega) | ((with_reducible refine Same.alloc ?_ ?_ _); rotate_left; simp <;> omega) | with_reducible apply Same.drew | with_reducible apply Same.drewN))).two (by simp) (by simp; omega) (by simp; omega) (by omega)
  · go_wp2_with (fail)
    refine bodyPost_ret (v := .agg #[.slice B0 p.Stacks.Nodes.length d0, .slice B1 p.Counts.length d1]) (by simp [results, Tryz.results51, go_sem]) rfl ⟨B0, d0, B1, d1, rfl, ?_, (by repeat (first | with_reducible exact Gro.refl _ | with_reducible exact Gro.refl_drew _ _ _ | with_reducible exact Gro.refl_drewN _ _ _ _ | assumption | with_reducible apply Gro.more | with_reducible apply Gro.alloc | with_reducible apply Gro.drew | with_reducible apply Gro.drewN))⟩
    exact profile_of (hF0.frN.same (by repeat (first | with_reducible exact Same.refl _ _ _ | ((with_reducible refine Same.base ?_ ?_) <;> (simp <;> omega)) | ((with_reducible refine Same.more ?_ ?_ _ _); rotate_left; simp <;> omega) | ((with_reducible refine Same.alloc ?_ ?_ _); rotate_left; simp <;> omega) | with_reducible apply Same.drew | with_reducible apply Same.drewN))) (hF1.same (by simp only [gro_gro]; exact Same.base (by simp) (by simp)) (by simp only [gro_gro]; exact Same.base (by simp) (by simp <;> omega))) (by simp) (by simp; omega) (by simp; omega) (by simp; omega)
def padTo (cs : List Int) (n : Nat) : List Int := cs ++ List.replicate (n - cs.length) 0
def addTo (p : DProfile) (t : DStacks) (k : Nat) (n : Int) : DProfile := ⟨t, (padTo p.Counts t.Nodes.length).set k (((padTo p.Counts t.Nodes.length)[k]?).getD 0 + n)⟩
def addStack (p : DProfile) (l : List DFrame) (n : Int) : DProfile × Bool :=
  if profileOk p && btw n 0 1000000000000 then
    if 0 ≤ (internStack p.Stacks l).2 then
      if profileOk (addTo p (internStack p.Stacks l).1 (internStack p.Stacks l).2.toNat n) then (addTo p (internStack p.Stacks l).1 (internStack p.Stacks l).2.toNat n, true) else (p, false)
    else (p, false)
  else (p, false)
theorem addStack_len (p : DProfile) (l : List DFrame) (n : Int) : (addStack p l n).1.Stacks.Nodes.length ≤ p.Stacks.Nodes.length + l.length ∧ (addStack p l n).1.Counts.length ≤ p.Counts.length + p.Stacks.Nodes.length + l.length := by
  have h := internStack_len p.Stacks l
  unfold addStack
  split
  · split
    · split
      · simp only [addTo, padTo, List.length_set, List.length_append, List.length_replicate]
        omega
      · simp only
        omega
    · simp only
      omega
  · simp only
    omega
theorem internL_bd (ns : List DNode) (a : Int) (l : List DFrame) (h : a < ns.length ∨ l ≠ []) : (internL ns a l).2 < (internL ns a l).1.length := by
  induction l generalizing ns a with
  | nil => rcases h with h | h; exact h; exact absurd rfl h
  | cons f fs ih =>
    simp only [internL]
    split
    · exact ih _ _ (.inl (by simp only [List.length_append, List.length_cons, List.length_nil]; omega))
    · exact ih _ _ (.inl child_lt.2)
theorem internStack_bd (t : DStacks) (l : List DFrame) (h : 0 ≤ (internStack t l).2) : (internStack t l).2 < (internStack t l).1.Nodes.length ∧ t.Nodes.length ≤ (internStack t l).1.Nodes.length := by
  unfold internStack at h ⊢
  split at h
  · rename_i hc
    rw [if_pos hc]
    simp only [Bool.and_eq_true, Bool.not_eq_true'] at hc
    exact ⟨internL_bd _ _ _ (.inr (by intro h; rw [h] at hc; simp at hc)), (internL_len _ _ _).1⟩
  · simp at h
theorem countsOk_elem {L : Int} {cs : List Int} (h : countsOk L cs = true) {j : Nat} {c : Int} (hc : cs[j]? = some c) : 0 ≤ c ∧ c ≤ L := by
  induction cs generalizing L j with
  | nil => simp at hc
  | cons x xs ih =>
    simp only [countsOk, Bool.and_eq_true, btw_iff] at h
    cases j with
    | zero => simp at hc; omega
    | succ j =>
      have := ih h.2 (j := j) (by simpa using hc)
      omega
theorem padTo_len (cs : List Int) (n : Nat) (h : cs.length ≤ n) : (padTo cs n).length = n := by
  simp [padTo]; omega
theorem padTo_elem {cs : List Int} {n : Nat} (h : countsOk 1000000000000 cs = true) {j : Nat} {c : Int} (hc : (padTo cs n)[j]? = some c) : 0 ≤ c ∧ c ≤ 1000000000000 := by
  unfold padTo at hc
  rw [List.getElem?_append] at hc
  split at hc
  · exact countsOk_elem h hc
  · have := List.mem_of_getElem? hc
    simp at this
    omega
def RetProfileBool (x : DProfile × Bool) (w : World) (r : Ending) (w' : World) : Prop := ∃ A0 c0 A1 c1, r = .returned (.tuple #[.agg #[.slice A0 x.1.Stacks.Nodes.length c0, .slice A1 x.1.Counts.length c1], .bool x.2]) ∧ Fresh tProfile w w' [.slice A0 x.1.Stacks.Nodes.length c0, .slice A1 x.1.Counts.length c1] x.1 ∧ Gro w w'
theorem ret_profile_bool {x : DProfile × Bool} {p : DProfile} {b : Bool} (hx : x = (p, b)) {w w' : World} {A0 A1 : Option Addr} {c0 c1 : Nat} (hF : Fresh tProfile w w' [.slice A0 p.Stacks.Nodes.length c0, .slice A1 p.Counts.length c1] p) (hG : Gro w w') : RetProfileBool x w (.returned (.tuple #[.agg #[.slice A0 p.Stacks.Nodes.length c0, .slice A1 p.Counts.length c1], .bool b])) w' := by
  subst hx
  exact ⟨A0, c0, A1, c1, rfl, hF, hG⟩
theorem rdProf {w : World} {B : Nat} {x : DProfile} {A0 A1 : Option Addr} {c0 c1 : Nat} (h : tProfile.R w B [.slice A0 x.Stacks.Nodes.length c0, .slice A1 x.Counts.length c1] x) : (tNode.sl 48).R w B [.slice A0 x.Stacks.Nodes.length c0] x.Stacks.Nodes ∧ (intT.sl 3).R w B [.slice A1 x.Counts.length c1] x.Counts := by
  obtain ⟨A0', c0', A1', c1', hc, f0, f1⟩ := tProfile_R h
  simp only [List.cons.injEq, Value.slice.injEq, true_and, and_true] at hc
  obtain ⟨⟨rfl, rfl⟩, rfl, rfl⟩ := hc
  exact ⟨f0, f1⟩
theorem prof_parts {w W : World} {x : DProfile} {A0 A1 : Option Addr} {c0 c1 : Nat} (h : Fresh tProfile w W [.slice A0 x.Stacks.Nodes.length c0, .slice A1 x.Counts.length c1] x) : FrN (intT.sl 3) w.heap.size W.heap.size W [.slice A1 x.Counts.length c1] x.Counts := by
  obtain ⟨S, h1, h2, h3⟩ := h
  obtain ⟨A0', c0', S0, A1', c1', S1, hc, rfl, f0, f1⟩ := tProfile_O h1
  simp only [List.cons.injEq, Value.slice.injEq, true_and, and_true] at hc
  obtain ⟨⟨rfl, rfl⟩, rfl, rfl⟩ := hc
  exact ⟨S1, f1, (List.nodup_append.1 h2).2.1, fun b hb => ⟨h3 b (List.mem_append_right _ hb), Ty.ltO _ f1 b hb⟩⟩
set_option maxRecDepth 100000 in
set_option maxHeartbeats 4000000 in
theorem addStack_i {p : DProfile} {l : List DFrame} {n : Int} {w : World} {A0 A1 A2 : Option Addr} {c0 c1 c2 : Nat} (hx : (tNode.sl 48).R w w.heap.size [.slice A0 p.Stacks.Nodes.length c0] p.Stacks.Nodes) (hy : (intT.sl 3).R w w.heap.size [.slice A1 p.Counts.length c1] p.Counts) (hl : (tFrame.sl 46).R w w.heap.size [.slice A2 l.length c2] l) (hn : p.Stacks.Nodes.length ≤ 549755813888) (hnl : l.length ≤ 549755813888) (hm0 : p.Counts.length ≤ 549755813888) :
    Calls Tryz.prog 38 #[.agg #[.slice A0 p.Stacks.Nodes.length c0, .slice A1 p.Counts.length c1], .slice A2 l.length c2, .int .i64 n] w (RetProfileBool (addStack p l n) w) := by
  cases hok : profileOk p
  · have HF := Lib.hid (show addStack p l n = (p, false) from by simp [addStack, hok])
    have HO := Lib.hid hok
    clear hok
    go_enter Tryz.func38, Tryz.ntmps38
    go_wp2_with (first
      | (go_at_call 14; (with_reducible refine (profileOk_i (p := p) (Ty.up _ hx (by repeat (first | with_reducible exact Gro.refl _ | with_reducible exact Gro.refl_drew _ _ _ | with_reducible exact Gro.refl_drewN _ _ _ _ | assumption | with_reducible apply Gro.more | with_reducible apply Gro.alloc | with_reducible apply Gro.drew | with_reducible apply Gro.drewN))) (Ty.up _ hy (by repeat (first | with_reducible exact Gro.refl _ | with_reducible exact Gro.refl_drew _ _ _ | with_reducible exact Gro.refl_drewN _ _ _ _ | assumption | with_reducible apply Gro.more | with_reducible apply Gro.alloc | with_reducible apply Gro.drew | with_reducible apply Gro.drewN)))).mono ?_); rw [HO.out]; rintro e w1 ⟨rfl, os0, dd0, rfl⟩)
      | (go_at_call 57; (with_reducible refine (copyProfile_i (p := p) (Ty.up _ hx (by repeat (first | with_reducible exact Gro.refl _ | with_reducible exact Gro.refl_drew _ _ _ | with_reducible exact Gro.refl_drewN _ _ _ _ | assumption | with_reducible apply Gro.more | with_reducible apply Gro.alloc | with_reducible apply Gro.drew | with_reducible apply Gro.drewN))) (Ty.up _ hy (by repeat (first | with_reducible exact Gro.refl _ | with_reducible exact Gro.refl_drew _ _ _ | with_reducible exact Gro.refl_drewN _ _ _ _ | assumption | with_reducible apply Gro.more | with_reducible apply Gro.alloc | with_reducible apply Gro.drew | with_reducible apply Gro.drewN))) (by omega) (by omega)).mono ?_); rintro e w1 ⟨B0, d0, B1, d1, rfl, hF, os1, dd1, rfl⟩))
    refine bodyPost_ret (v := .tuple #[.agg #[.slice B0 p.Stacks.Nodes.length d0, .slice B1 p.Counts.length d1], .bool false]) (by simp [results, Tryz.results38, go_sem]) rfl (ret_profile_bool HF.out ?_ (by repeat (first | with_reducible exact Gro.refl _ | with_reducible exact Gro.refl_drew _ _ _ | with_reducible exact Gro.refl_drewN _ _ _ _ | assumption | with_reducible apply Gro.more | with_reducible apply Gro.alloc | with_reducible apply Gro.drew | with_reducible apply Gro.drewN)))
    exact (hF.frN.same (by simp only [gro_gro]; exact Same.base (by simp) (by simp))).fresh (by simp <;> omega)
  · cases hb : btw n 0 1000000000000
    · have HF := Lib.hid (show addStack p l n = (p, false) from by simp [addStack, hb])
      have HO := Lib.hid hok
      have HB := Lib.hid hb
      clear hok hb
      go_enter Tryz.func38, Tryz.ntmps38
      go_wp2_with (first
        | (go_at_call 14; (with_reducible refine (profileOk_i (p := p) (Ty.up _ hx (by repeat (first | with_reducible exact Gro.refl _ | with_reducible exact Gro.refl_drew _ _ _ | with_reducible exact Gro.refl_drewN _ _ _ _ | assumption | with_reducible apply Gro.more | with_reducible apply Gro.alloc | with_reducible apply Gro.drew | with_reducible apply Gro.drewN))) (Ty.up _ hy (by repeat (first | with_reducible exact Gro.refl _ | with_reducible exact Gro.refl_drew _ _ _ | with_reducible exact Gro.refl_drewN _ _ _ _ | assumption | with_reducible apply Gro.more | with_reducible apply Gro.alloc | with_reducible apply Gro.drew | with_reducible apply Gro.drewN)))).mono ?_); rw [HO.out]; rintro e w1 ⟨rfl, os0, dd0, rfl⟩)
        | (go_at_call 33; (with_reducible refine (in_i _ _ _ _).mono ?_); rw [HB.out]; rintro e w1 ⟨rfl, rfl⟩)
        | (go_at_call 57; (with_reducible refine (copyProfile_i (p := p) (Ty.up _ hx (by repeat (first | with_reducible exact Gro.refl _ | with_reducible exact Gro.refl_drew _ _ _ | with_reducible exact Gro.refl_drewN _ _ _ _ | assumption | with_reducible apply Gro.more | with_reducible apply Gro.alloc | with_reducible apply Gro.drew | with_reducible apply Gro.drewN))) (Ty.up _ hy (by repeat (first | with_reducible exact Gro.refl _ | with_reducible exact Gro.refl_drew _ _ _ | with_reducible exact Gro.refl_drewN _ _ _ _ | assumption | with_reducible apply Gro.more | with_reducible apply Gro.alloc | with_reducible apply Gro.drew | with_reducible apply Gro.drewN))) (by omega) (by omega)).mono ?_); rintro e w1 ⟨B0, d0, B1, d1, rfl, hF, os1, dd1, rfl⟩))
      refine bodyPost_ret (v := .tuple #[.agg #[.slice B0 p.Stacks.Nodes.length d0, .slice B1 p.Counts.length d1], .bool false]) (by simp [results, Tryz.results38, go_sem]) rfl (ret_profile_bool HF.out ?_ (by repeat (first | with_reducible exact Gro.refl _ | with_reducible exact Gro.refl_drew _ _ _ | with_reducible exact Gro.refl_drewN _ _ _ _ | assumption | with_reducible apply Gro.more | with_reducible apply Gro.alloc | with_reducible apply Gro.drew | with_reducible apply Gro.drewN)))
      exact (hF.frN.same (by simp only [gro_gro]; exact Same.base (by simp) (by simp))).fresh (by simp <;> omega)
    · obtain ⟨n1, n2⟩ := btw_iff.1 hb
      have hil := internStack_len p.Stacks l
      have hbd := internStack_bd p.Stacks l
      have HF := Lib.hid (show addStack p l n = if 0 ≤ (internStack p.Stacks l).2 then
          if profileOk (addTo p (internStack p.Stacks l).1 (internStack p.Stacks l).2.toNat n) then (addTo p (internStack p.Stacks l).1 (internStack p.Stacks l).2.toNat n, true) else (p, false)
          else (p, false) from by simp [addStack, hok, hb])
      generalize hr : internStack p.Stacks l = r at hil hbd HF
      obtain ⟨t, q⟩ := r
      simp only at hil hbd HF
      have HR := Lib.hid hr
      have HO := Lib.hid hok
      have HB := Lib.hid hb
      clear hok hb hr
      by_cases hq : 0 ≤ q
      · have HBD := hbd hq
        obtain ⟨hq1, hq2⟩ := HBD
        clear hbd
        obtain ⟨k, rfl⟩ := Int.eq_ofNat_of_zero_le hq
        go_enter Tryz.func38, Tryz.ntmps38
        go_wp2_with (first
          | (go_at_call 14; (with_reducible refine (profileOk_i (p := p) (Ty.up _ hx (by repeat (first | with_reducible exact Gro.refl _ | with_reducible exact Gro.refl_drew _ _ _ | with_reducible exact Gro.refl_drewN _ _ _ _ | assumption | with_reducible apply Gro.more | with_reducible apply Gro.alloc | with_reducible apply Gro.drew | with_reducible apply Gro.drewN))) (Ty.up _ hy (by repeat (first | with_reducible exact Gro.refl _ | with_reducible exact Gro.refl_drew _ _ _ | with_reducible exact Gro.refl_drewN _ _ _ _ | assumption | with_reducible apply Gro.more | with_reducible apply Gro.alloc | with_reducible apply Gro.drew | with_reducible apply Gro.drewN)))).mono ?_); rw [HO.out]; rintro e w1 ⟨rfl, os0, dd0, rfl⟩)
          | (go_at_call 33; (with_reducible refine (in_i _ _ _ _).mono ?_); rw [HB.out]; rintro e w1 ⟨rfl, rfl⟩)
          | (go_at_call 57; (with_reducible refine (copyProfile_i (p := p) (Ty.up _ hx (by repeat (first | with_reducible exact Gro.refl _ | with_reducible exact Gro.refl_drew _ _ _ | with_reducible exact Gro.refl_drewN _ _ _ _ | assumption | with_reducible apply Gro.more | with_reducible apply Gro.alloc | with_reducible apply Gro.drew | with_reducible apply Gro.drewN))) (Ty.up _ hy (by repeat (first | with_reducible exact Gro.refl _ | with_reducible exact Gro.refl_drew _ _ _ | with_reducible exact Gro.refl_drewN _ _ _ _ | assumption | with_reducible apply Gro.more | with_reducible apply Gro.alloc | with_reducible apply Gro.drew | with_reducible apply Gro.drewN))) (by omega) (by omega)).mono ?_); rintro e w1 ⟨B0, d0, B1, d1, rfl, hF, os1, dd1, rfl⟩)
          | (go_at_call 58; (with_reducible refine (internStack_i (t := p.Stacks) (l := l) (Ty.up _ hx (by repeat (first | with_reducible exact Gro.refl _ | with_reducible exact Gro.refl_drew _ _ _ | with_reducible exact Gro.refl_drewN _ _ _ _ | assumption | with_reducible apply Gro.more | with_reducible apply Gro.alloc | with_reducible apply Gro.drew | with_reducible apply Gro.drewN))) (Ty.up _ hl (by repeat (first | with_reducible exact Gro.refl _ | with_reducible exact Gro.refl_drew _ _ _ | with_reducible exact Gro.refl_drewN _ _ _ _ | assumption | with_reducible apply Gro.more | with_reducible apply Gro.alloc | with_reducible apply Gro.drew | with_reducible apply Gro.drewN))) (by omega) (by omega)).mono ?_); rw [HR.out]; rintro e w1 ⟨C0, e0, rfl, hG, os2, dd2, rfl⟩))
        generalize hm : os1.size = m
        have hcl : p.Counts.length = p.Stacks.Nodes.length := by
          have h := HO.out
          simp only [profileOk, Bool.and_eq_true, decide_eq_true_eq] at h
          exact h.2.1
        have HC := Lib.hid (prof_parts hF)
        have HG := Lib.hid (stacks_nodes hG).frN
        have HCL := Lib.hid hcl
        have hcle : p.Counts.length ≤ t.Nodes.length := by omega
        clear hF hG hcl
        go_loopg [] (t.Nodes.length - p.Counts.length) (fun gk wr => ∃ (cs : List Int) (B : Option Addr) (cc : Nat) (os' os3 : Array Obj) (d3 : Nat), gk = t.Nodes.length - cs.length ∧ p.Counts.length ≤ cs.length ∧ cs.length ≤ t.Nodes.length ∧ Hid (os'.size = m) ∧ Hid (wr = (gro ((gro ((gro (gro ((w.alloc (.cells #[.slice A0 p.Stacks.Nodes.length c0, .slice A1 p.Counts.length c1] 29)).alloc (.cells #[.slice none 0 0, .slice none 0 0] 29)) os0 dd0) os' dd1).alloc (.cells #[.slice C0 t.Nodes.length e0, .slice B cs.length cc] 29)) os2 dd2).alloc (.cells #[.slice C0 t.Nodes.length e0] 26)) os3 d3)) ∧ Hid (Fr2N (intT.sl 3) (gro ((w.alloc (.cells #[.slice A0 p.Stacks.Nodes.length c0, .slice A1 p.Counts.length c1] 29)).alloc (.cells #[.slice none 0 0, .slice none 0 0] 29)) os0 dd0).heap.size ((gro ((w.alloc (.cells #[.slice A0 p.Stacks.Nodes.length c0, .slice A1 p.Counts.length c1] 29)).alloc (.cells #[.slice none 0 0, .slice none 0 0] 29)) os0 dd0).heap.size + m) ((gro ((w.alloc (.cells #[.slice A0 p.Stacks.Nodes.length c0, .slice A1 p.Counts.length c1] 29)).alloc (.cells #[.slice none 0 0, .slice none 0 0] 29)) os0 dd0).heap.size + m + 1 + os2.size + 1) wr [.slice B cs.length cc] cs) ∧ Hid (cs = p.Counts ++ List.replicate (cs.length - p.Counts.length) 0))
        case atStart =>
          refine ⟨p.Counts, B1, d1, os1, #[], _, rfl, by omega, by omega, Lib.hid hm, gro_refl, Lib.hid ?_, Lib.hid (by simp)⟩
          have h := HC.out
          rw [gro_size _ _ (w := (gro ((w.alloc (.cells #[.slice A0 p.Stacks.Nodes.length c0, .slice A1 p.Counts.length c1] 29)).alloc (.cells #[.slice none 0 0, .slice none 0 0] 29)) os0 dd0)), hm] at h
          have h2 := h.gro (w2 := (gro ((gro (gro ((w.alloc (.cells #[.slice A0 p.Stacks.Nodes.length c0, .slice A1 p.Counts.length c1] 29)).alloc (.cells #[.slice none 0 0, .slice none 0 0] 29)) os0 dd0) os1 dd1).alloc (.cells #[.slice C0 t.Nodes.length e0, .slice B1 p.Counts.length d1] 29)) os2 dd2).alloc (.cells #[.slice C0 t.Nodes.length e0] 26)) (by repeat (first | with_reducible exact Gro.refl _ | with_reducible exact Gro.refl_drew _ _ _ | with_reducible exact Gro.refl_drewN _ _ _ _ | assumption | with_reducible apply Gro.more | with_reducible apply Gro.alloc | with_reducible apply Gro.drew | with_reducible apply Gro.drewN))
          exact h2.two
        case round =>
          obtain ⟨cs, B, cc, os', os3, d3, hgk, hl1, hl2, hm2, hw, HF2, HCS⟩ := hrel
          have hw' := hw.out
          subst hw'
          clear hw
          have hm' := hm2.out
          by_cases hlt : cs.length < t.Nodes.length
          · go_wp2_with (at_builtin; go_must (refine wpList_append_fone3 (X := (gro ((w.alloc (.cells #[.slice A0 p.Stacks.Nodes.length c0, .slice A1 p.Counts.length c1] 29)).alloc (.cells #[.slice none 0 0, .slice none 0 0] 29)) os0 dd0)) (os := os') (d := dd1) (osm := os2) (dm := dd2) (L := cs.length + 1) rfl (.tmp 43) (.tmp 44) elInt flat_int (HF2.out.gro (by repeat (first | with_reducible exact Gro.refl _ | with_reducible exact Gro.refl_drew _ _ _ | with_reducible exact Gro.refl_drewN _ _ _ _ | assumption | with_reducible apply Gro.more | with_reducible apply Gro.alloc | with_reducible apply Gro.drew | with_reducible apply Gro.drewN))) (by repeat (first | with_reducible exact Gro.refl _ | with_reducible exact Gro.refl_drew _ _ _ | with_reducible exact Gro.refl_drewN _ _ _ _ | assumption | with_reducible apply Gro.more | with_reducible apply Gro.alloc | with_reducible apply Gro.drew | with_reducible apply Gro.drewN)) (by rw [hm']) (by rw [hm']) (W1 := w) (B := 0) (y := (0 : Int)) (ec := [.int .i64 0]) ⟨rfl, by omega, by omega⟩ rfl rfl rfl (by intro i x hx; simpa [go_sem, hm'] using hx) rfl (by omega) (by omega) ?_); intro B2 c3 os6 os7 d7 hs6 hF3)
            go_roundg (gk - 1)
            case measure => omega
            case rel =>
              refine ⟨cs ++ [0], B2, c3, os6, os7, d7, by simp only [List.length_append, List.length_cons, List.length_nil]; omega, by simp only [List.length_append, List.length_cons, List.length_nil]; omega, by simp only [List.length_append, List.length_cons, List.length_nil]; omega, Lib.hid (by omega), Lib.hid (by simp only [List.length_append, List.length_cons, List.length_nil]), Lib.hid ?_, Lib.hid ?_⟩
              · simp only [List.length_append, List.length_cons, List.length_nil]
                exact hF3.same (Same.box3_o (.inl (by omega))) (Same.box3_o (.inr (by omega)))
              · simp only [List.length_append, List.length_cons, List.length_nil]
                rw [show cs.length + (0 + 1) - p.Counts.length = (cs.length - p.Counts.length) + 1 from by omega, List.replicate_succ', ← List.append_assoc, ← HCS.out]
          · have hje : cs.length = t.Nodes.length := by omega
            have hk : k < cs.length := by omega
            have hck : cs[k]? = some cs[k] := List.getElem?_eq_getElem hk
            have hpad : cs = padTo p.Counts t.Nodes.length := by have h := HCS.out; rw [hje] at h; exact h
            have hcb : 0 ≤ cs[k] ∧ cs[k] ≤ 1000000000000 := by
              have h := HO.out
              simp only [profileOk, Bool.and_eq_true] at h
              exact padTo_elem h.2.2 (by rw [← hpad]; exact hck)
            generalize cs[k] = c at hck hcb
            obtain ⟨hc1, hc2⟩ := hcb
            have HQ2 := Lib.hid (show addTo p t k n = ⟨t, cs.set k (c + n)⟩ from by unfold addTo; rw [← hpad, hck]; rfl)
            rw [hje] at HF2 ⊢
            obtain ⟨g, rfl, hgl, hfz, hc, os6, os7, d7, hs6, hset, hF3⟩ := set_box3 (X := (gro ((w.alloc (.cells #[.slice A0 p.Stacks.Nodes.length c0, .slice A1 p.Counts.length c1] 29)).alloc (.cells #[.slice none 0 0, .slice none 0 0] 29)) os0 dd0)) (os := os') (d := dd1) (osm := os2) (dm := dd2) (y := c + n) HF2.out (Gro.of _ _ _) (by rw [hm']) (by rw [hm']) hck ⟨by omega, by omega⟩
            have hN2 : FrN (tNode.sl 48) ((gro ((w.alloc (.cells #[.slice A0 p.Stacks.Nodes.length c0, .slice A1 p.Counts.length c1] 29)).alloc (.cells #[.slice none 0 0, .slice none 0 0] 29)) os0 dd0).heap.size + m + 1) ((gro ((w.alloc (.cells #[.slice A0 p.Stacks.Nodes.length c0, .slice A1 p.Counts.length c1] 29)).alloc (.cells #[.slice none 0 0, .slice none 0 0] 29)) os0 dd0).heap.size + m + 1 + os2.size) (gro ((gro ((gro (gro ((w.alloc (.cells #[.slice A0 p.Stacks.Nodes.length c0, .slice A1 p.Counts.length c1] 29)).alloc (.cells #[.slice none 0 0, .slice none 0 0] 29)) os0 dd0) os6 dd1).alloc (.cells #[.slice C0 t.Nodes.length e0, .slice (some ⟨g, 0, none⟩) t.Nodes.length cc] 29)) os2 dd2).alloc (.cells #[.slice C0 t.Nodes.length e0] 26)) os7 d7) [.slice C0 t.Nodes.length e0] t.Nodes := by
              have h := HG.out
              rw [gro_size _ _ (w := (gro (gro ((w.alloc (.cells #[.slice A0 p.Stacks.Nodes.length c0, .slice A1 p.Counts.length c1] 29)).alloc (.cells #[.slice none 0 0, .slice none 0 0] 29)) os0 dd0) os1 dd1).alloc _), World.size_alloc, gro_size _ _ (w := (gro ((w.alloc (.cells #[.slice A0 p.Stacks.Nodes.length c0, .slice A1 p.Counts.length c1] 29)).alloc (.cells #[.slice none 0 0, .slice none 0 0] 29)) os0 dd0)), hm] at h
              have h2 := (h.gro (w2 := gro ((gro ((gro (gro ((w.alloc (.cells #[.slice A0 p.Stacks.Nodes.length c0, .slice A1 p.Counts.length c1] 29)).alloc (.cells #[.slice none 0 0, .slice none 0 0] 29)) os0 dd0) os1 dd1).alloc (.cells #[.slice B0 p.Stacks.Nodes.length d0, .slice B1 p.Counts.length d1] 29)) os2 dd2).alloc (.cells #[.slice C0 t.Nodes.length e0] 26)) #[] 0) (by repeat (first | with_reducible exact Gro.refl _ | with_reducible exact Gro.refl_drew _ _ _ | with_reducible exact Gro.refl_drewN _ _ _ _ | assumption | with_reducible apply Gro.more | with_reducible apply Gro.alloc | with_reducible apply Gro.drew | with_reducible apply Gro.drewN)))
              exact h2.same (Same.box3_mid (by omega) (by omega) (by omega))
            have HP : ∀ W', (tNode.sl 48).R W' W'.heap.size [.slice C0 t.Nodes.length e0] t.Nodes → (intT.sl 3).R W' W'.heap.size [.slice (some ⟨g, 0, none⟩) t.Nodes.length cc] (cs.set k (c + n)) →
                Calls Tryz.prog 14 #[.agg #[.slice C0 t.Nodes.length e0, .slice (some ⟨g, 0, none⟩) t.Nodes.length cc]] W' fun e w' => e = .returned (.bool (profileOk ⟨t, cs.set k (c + n)⟩)) ∧ Gro W' w' := by
              intro W' a b
              have hln : (cs.set k (c + n)).length = t.Nodes.length := by rw [List.length_set, hje]
              have h := profileOk_i (p := ⟨t, cs.set k (c + n)⟩) (w := W') (A0 := C0) (c0 := e0) (A1 := some ⟨g, 0, none⟩) (c1 := cc) a (by show (intT.sl 3).R W' W'.heap.size [.slice (some ⟨g, 0, none⟩) (cs.set k (c + n)).length cc] (cs.set k (c + n)); rw [hln]; exact b)
              simp only [hln] at h
              exact h
            have HLN := Lib.hid (show (cs.set k (c + n)).length = t.Nodes.length from by rw [List.length_set, hje])
            have HPH := Lib.hid HP
            have HCK := Lib.hid hck
            clear hje hck hpad HP
            cases hfin : profileOk ⟨t, cs.set k (c + n)⟩
            · have HQ := Lib.hid (show addStack p l n = (p, false) from by rw [HF.out, if_pos hq, Int.toNat_natCast, HQ2.out, if_neg (by rw [hfin]; simp)])
              have HFIN := Lib.hid hfin
              clear hfin
              go_wp2_with (first
                | (go_at_call 14; (with_reducible refine (HPH.out _ (Ty.up _ hN2.read (by repeat (first | with_reducible exact Gro.refl _ | with_reducible exact Gro.refl_drew _ _ _ | with_reducible exact Gro.refl_drewN _ _ _ _ | assumption | with_reducible apply Gro.more | with_reducible apply Gro.alloc | with_reducible apply Gro.drew | with_reducible apply Gro.drewN))) (Ty.up _ hF3.read (by repeat (first | with_reducible exact Gro.refl _ | with_reducible exact Gro.refl_drew _ _ _ | with_reducible exact Gro.refl_drewN _ _ _ _ | assumption | with_reducible apply Gro.more | with_reducible apply Gro.alloc | with_reducible apply Gro.drew | with_reducible apply Gro.drewN)))).mono ?_); rw [HFIN.out]; rintro e w1 ⟨rfl, os8, dd8, rfl⟩)
                | (go_at_call 57; (with_reducible refine (copyProfile_i (p := p) (Ty.up _ hx (by repeat (first | with_reducible exact Gro.refl _ | with_reducible exact Gro.refl_drew _ _ _ | with_reducible exact Gro.refl_drewN _ _ _ _ | assumption | with_reducible apply Gro.more | with_reducible apply Gro.alloc | with_reducible apply Gro.drew | with_reducible apply Gro.drewN))) (Ty.up _ hy (by repeat (first | with_reducible exact Gro.refl _ | with_reducible exact Gro.refl_drew _ _ _ | with_reducible exact Gro.refl_drewN _ _ _ _ | assumption | with_reducible apply Gro.more | with_reducible apply Gro.alloc | with_reducible apply Gro.drew | with_reducible apply Gro.drewN))) (by omega) (by omega)).mono ?_); rintro e w1 ⟨E0, f0, E1, f1, rfl, hF9, os9, dd9, rfl⟩))
              refine bodyPost_ret (v := .tuple #[.agg #[.slice E0 p.Stacks.Nodes.length f0, .slice E1 p.Counts.length f1], .bool false]) (by simp [results, Tryz.results38, go_sem, hm']) rfl (ret_profile_bool HQ.out ?_ (by repeat (first | with_reducible exact Gro.refl _ | with_reducible exact Gro.refl_drew _ _ _ | with_reducible exact Gro.refl_drewN _ _ _ _ | assumption | with_reducible apply Gro.more | with_reducible apply Gro.alloc | with_reducible apply Gro.drew | with_reducible apply Gro.drewN)))
              refine (hF9.frN.same ?_).fresh (by simp <;> omega)
              simp only [gro_gro]
              exact Same.box3_base (by simp) (by simp <;> omega)
            · have HQ := Lib.hid (show addStack p l n = (⟨t, cs.set k (c + n)⟩, true) from by rw [HF.out, if_pos hq, Int.toNat_natCast, HQ2.out, if_pos hfin])
              have HFIN := Lib.hid hfin
              clear hfin
              go_wp2_with (first
                | (go_at_call 14; (with_reducible refine (HPH.out _ (Ty.up _ hN2.read (by repeat (first | with_reducible exact Gro.refl _ | with_reducible exact Gro.refl_drew _ _ _ | with_reducible exact Gro.refl_drewN _ _ _ _ | assumption | with_reducible apply Gro.more | with_reducible apply Gro.alloc | with_reducible apply Gro.drew | with_reducible apply Gro.drewN))) (Ty.up _ hF3.read (by repeat (first | with_reducible exact Gro.refl _ | with_reducible exact Gro.refl_drew _ _ _ | with_reducible exact Gro.refl_drewN _ _ _ _ | assumption | with_reducible apply Gro.more | with_reducible apply Gro.alloc | with_reducible apply Gro.drew | with_reducible apply Gro.drewN)))).mono ?_); rw [HFIN.out]; rintro e w1 ⟨rfl, os8, dd8, rfl⟩))
              have hln2 : cs.length = t.Nodes.length := by have h := HLN.out; rwa [List.length_set] at h
              refine bodyPost_ret (v := .tuple #[.agg #[.slice C0 t.Nodes.length e0, .slice (some ⟨g, 0, none⟩) (cs.set k (c + n)).length cc], .bool true]) (by simp [results, Tryz.results38, go_sem, hm', hln2]) rfl (ret_profile_bool (p := ⟨t, cs.set k (c + n)⟩) HQ.out ?_ (by repeat (first | with_reducible exact Gro.refl _ | with_reducible exact Gro.refl_drew _ _ _ | with_reducible exact Gro.refl_drewN _ _ _ _ | assumption | with_reducible apply Gro.more | with_reducible apply Gro.alloc | with_reducible apply Gro.drew | with_reducible apply Gro.drewN)))
              refine profile_of (p := ⟨t, cs.set k (c + n)⟩) (show FrN (tNode.sl 48) _ _ _ [.slice C0 t.Nodes.length e0] t.Nodes from (hN2.gro (Gro.of _ os8 dd8)).same ?_) (show Fr2N (intT.sl 3) _ _ _ _ [.slice (some ⟨g, 0, none⟩) (cs.set k (c + n)).length cc] (cs.set k (c + n)) from by rw [HLN.out]; exact (hF3.gro (Gro.of _ os8 dd8)).same (by simp only [gro_gro]; exact Same.box3_base (by simp) (by simp <;> omega)) (by simp only [gro_gro]; exact Same.box3_base (by simp) (by simp <;> omega))) (by omega) (by simp <;> omega) (by simp <;> omega) (by simp <;> omega)
              all_goals
                simp only [gro_gro]
                exact Same.box3_base (by simp) (by simp <;> omega)
      · have HQ := Lib.hid (show addStack p l n = (p, false) from by rw [HF.out, if_neg hq])
        go_enter Tryz.func38, Tryz.ntmps38
        go_wp2_with (first
          | (go_at_call 14; (with_reducible refine (profileOk_i (p := p) (Ty.up _ hx (by repeat (first | with_reducible exact Gro.refl _ | with_reducible exact Gro.refl_drew _ _ _ | with_reducible exact Gro.refl_drewN _ _ _ _ | assumption | with_reducible apply Gro.more | with_reducible apply Gro.alloc | with_reducible apply Gro.drew | with_reducible apply Gro.drewN))) (Ty.up _ hy (by repeat (first | with_reducible exact Gro.refl _ | with_reducible exact Gro.refl_drew _ _ _ | with_reducible exact Gro.refl_drewN _ _ _ _ | assumption | with_reducible apply Gro.more | with_reducible apply Gro.alloc | with_reducible apply Gro.drew | with_reducible apply Gro.drewN)))).mono ?_); rw [HO.out]; rintro e w1 ⟨rfl, os0, dd0, rfl⟩)
          | (go_at_call 33; (with_reducible refine (in_i _ _ _ _).mono ?_); rw [HB.out]; rintro e w1 ⟨rfl, rfl⟩)
          | (go_at_call 57; (with_reducible refine (copyProfile_i (p := p) (Ty.up _ hx (by repeat (first | with_reducible exact Gro.refl _ | with_reducible exact Gro.refl_drew _ _ _ | with_reducible exact Gro.refl_drewN _ _ _ _ | assumption | with_reducible apply Gro.more | with_reducible apply Gro.alloc | with_reducible apply Gro.drew | with_reducible apply Gro.drewN))) (Ty.up _ hy (by repeat (first | with_reducible exact Gro.refl _ | with_reducible exact Gro.refl_drew _ _ _ | with_reducible exact Gro.refl_drewN _ _ _ _ | assumption | with_reducible apply Gro.more | with_reducible apply Gro.alloc | with_reducible apply Gro.drew | with_reducible apply Gro.drewN))) (by omega) (by omega)).mono ?_); rintro e w1 ⟨B0, d0, B1, d1, rfl, hF, os1, dd1, rfl⟩)
          | (go_at_call 58; (with_reducible refine (internStack_i (t := p.Stacks) (l := l) (Ty.up _ hx (by repeat (first | with_reducible exact Gro.refl _ | with_reducible exact Gro.refl_drew _ _ _ | with_reducible exact Gro.refl_drewN _ _ _ _ | assumption | with_reducible apply Gro.more | with_reducible apply Gro.alloc | with_reducible apply Gro.drew | with_reducible apply Gro.drewN))) (Ty.up _ hl (by repeat (first | with_reducible exact Gro.refl _ | with_reducible exact Gro.refl_drew _ _ _ | with_reducible exact Gro.refl_drewN _ _ _ _ | assumption | with_reducible apply Gro.more | with_reducible apply Gro.alloc | with_reducible apply Gro.drew | with_reducible apply Gro.drewN))) (by omega) (by omega)).mono ?_); rw [HR.out]; rintro e w1 ⟨C0, e0, rfl, hG, os2, dd2, rfl⟩))
        refine bodyPost_ret (v := .tuple #[.agg #[.slice B0 p.Stacks.Nodes.length d0, .slice B1 p.Counts.length d1], .bool false]) (by simp [results, Tryz.results38, go_sem]) rfl (ret_profile_bool HQ.out ?_ (by repeat (first | with_reducible exact Gro.refl _ | with_reducible exact Gro.refl_drew _ _ _ | with_reducible exact Gro.refl_drewN _ _ _ _ | assumption | with_reducible apply Gro.more | with_reducible apply Gro.alloc | with_reducible apply Gro.drew | with_reducible apply Gro.drewN)))
        exact (hF.frN.same (by simp only [gro_gro]; exact (by repeat (first | with_reducible exact Same.refl _ _ _ | ((with_reducible refine Same.base ?_ ?_) <;> (simp <;> omega)) | ((with_reducible refine Same.more ?_ ?_ _ _); rotate_left; simp <;> omega) | ((with_reducible refine Same.alloc ?_ ?_ _); rotate_left; simp <;> omega) | with_reducible apply Same.drew | with_reducible apply Same.drewN)))).fresh (by simp <;> omega)
set_option maxRecDepth 100000 in
set_option maxHeartbeats 4000000 in
theorem addStack_s {p : DProfile} {l : List DFrame} {n : Int} {w : World} {A0 A1 A2 : Option Addr} {c0 c1 c2 : Nat} (hx : (tNode.sl 48).R w w.heap.size [.slice A0 p.Stacks.Nodes.length c0] p.Stacks.Nodes) (hy : (intT.sl 3).R w w.heap.size [.slice A1 p.Counts.length c1] p.Counts) (hl : (tFrame.sl 46).R w w.heap.size [.slice A2 l.length c2] l) (hn : p.Stacks.Nodes.length ≤ 549755813888) (hnl : l.length ≤ 549755813888) (hm0 : p.Counts.length ≤ 549755813888) :
    Calls Tryz.prog 29 #[.agg #[.slice A0 p.Stacks.Nodes.length c0, .slice A1 p.Counts.length c1], .slice A2 l.length c2, .int .i64 n] w (RetProfileBool (addStack p l n) w) := by
  cases hok : profileOk p
  · have HF := Lib.hid (show addStack p l n = (p, false) from by simp [addStack, hok])
    have HO := Lib.hid hok
    clear hok
    go_enter Tryz.func29, Tryz.ntmps29
    go_wp2_with (first
      | (go_at_call 25; (with_reducible refine (profileOk_s (p := p) (Ty.up _ hx (by repeat (first | with_reducible exact Gro.refl _ | with_reducible exact Gro.refl_drew _ _ _ | with_reducible exact Gro.refl_drewN _ _ _ _ | assumption | with_reducible apply Gro.more | with_reducible apply Gro.alloc | with_reducible apply Gro.drew | with_reducible apply Gro.drewN))) (Ty.up _ hy (by repeat (first | with_reducible exact Gro.refl _ | with_reducible exact Gro.refl_drew _ _ _ | with_reducible exact Gro.refl_drewN _ _ _ _ | assumption | with_reducible apply Gro.more | with_reducible apply Gro.alloc | with_reducible apply Gro.drew | with_reducible apply Gro.drewN)))).mono ?_); rw [HO.out]; rintro e w1 ⟨rfl, os0, dd0, rfl⟩)
      | (go_at_call 51; (with_reducible refine (copyProfile_s (p := p) (Ty.up _ hx (by repeat (first | with_reducible exact Gro.refl _ | with_reducible exact Gro.refl_drew _ _ _ | with_reducible exact Gro.refl_drewN _ _ _ _ | assumption | with_reducible apply Gro.more | with_reducible apply Gro.alloc | with_reducible apply Gro.drew | with_reducible apply Gro.drewN))) (Ty.up _ hy (by repeat (first | with_reducible exact Gro.refl _ | with_reducible exact Gro.refl_drew _ _ _ | with_reducible exact Gro.refl_drewN _ _ _ _ | assumption | with_reducible apply Gro.more | with_reducible apply Gro.alloc | with_reducible apply Gro.drew | with_reducible apply Gro.drewN))) (by omega) (by omega)).mono ?_); rintro e w1 ⟨B0, d0, B1, d1, rfl, hF, os1, dd1, rfl⟩))
    refine bodyPost_ret (v := .tuple #[.agg #[.slice B0 p.Stacks.Nodes.length d0, .slice B1 p.Counts.length d1], .bool false]) (by simp [results, Tryz.results29, go_sem]) rfl (ret_profile_bool HF.out ?_ (by repeat (first | with_reducible exact Gro.refl _ | with_reducible exact Gro.refl_drew _ _ _ | with_reducible exact Gro.refl_drewN _ _ _ _ | assumption | with_reducible apply Gro.more | with_reducible apply Gro.alloc | with_reducible apply Gro.drew | with_reducible apply Gro.drewN)))
    exact (hF.frN.same (by simp only [gro_gro]; exact Same.base (by simp) (by simp))).fresh (by simp <;> omega)
  · cases hb : btw n 0 1000000000000
    · have HF := Lib.hid (show addStack p l n = (p, false) from by simp [addStack, hb])
      have HO := Lib.hid hok
      have HB := Lib.hid hb
      clear hok hb
      go_enter Tryz.func29, Tryz.ntmps29
      go_wp2_with (first
        | (go_at_call 25; (with_reducible refine (profileOk_s (p := p) (Ty.up _ hx (by repeat (first | with_reducible exact Gro.refl _ | with_reducible exact Gro.refl_drew _ _ _ | with_reducible exact Gro.refl_drewN _ _ _ _ | assumption | with_reducible apply Gro.more | with_reducible apply Gro.alloc | with_reducible apply Gro.drew | with_reducible apply Gro.drewN))) (Ty.up _ hy (by repeat (first | with_reducible exact Gro.refl _ | with_reducible exact Gro.refl_drew _ _ _ | with_reducible exact Gro.refl_drewN _ _ _ _ | assumption | with_reducible apply Gro.more | with_reducible apply Gro.alloc | with_reducible apply Gro.drew | with_reducible apply Gro.drewN)))).mono ?_); rw [HO.out]; rintro e w1 ⟨rfl, os0, dd0, rfl⟩)
        | (go_at_call 47; (with_reducible refine (in_s _ _ _ _).mono ?_); rw [HB.out]; rintro e w1 ⟨rfl, rfl⟩)
        | (go_at_call 51; (with_reducible refine (copyProfile_s (p := p) (Ty.up _ hx (by repeat (first | with_reducible exact Gro.refl _ | with_reducible exact Gro.refl_drew _ _ _ | with_reducible exact Gro.refl_drewN _ _ _ _ | assumption | with_reducible apply Gro.more | with_reducible apply Gro.alloc | with_reducible apply Gro.drew | with_reducible apply Gro.drewN))) (Ty.up _ hy (by repeat (first | with_reducible exact Gro.refl _ | with_reducible exact Gro.refl_drew _ _ _ | with_reducible exact Gro.refl_drewN _ _ _ _ | assumption | with_reducible apply Gro.more | with_reducible apply Gro.alloc | with_reducible apply Gro.drew | with_reducible apply Gro.drewN))) (by omega) (by omega)).mono ?_); rintro e w1 ⟨B0, d0, B1, d1, rfl, hF, os1, dd1, rfl⟩))
      refine bodyPost_ret (v := .tuple #[.agg #[.slice B0 p.Stacks.Nodes.length d0, .slice B1 p.Counts.length d1], .bool false]) (by simp [results, Tryz.results29, go_sem]) rfl (ret_profile_bool HF.out ?_ (by repeat (first | with_reducible exact Gro.refl _ | with_reducible exact Gro.refl_drew _ _ _ | with_reducible exact Gro.refl_drewN _ _ _ _ | assumption | with_reducible apply Gro.more | with_reducible apply Gro.alloc | with_reducible apply Gro.drew | with_reducible apply Gro.drewN)))
      exact (hF.frN.same (by simp only [gro_gro]; exact Same.base (by simp) (by simp))).fresh (by simp <;> omega)
    · obtain ⟨n1, n2⟩ := btw_iff.1 hb
      have hil := internStack_len p.Stacks l
      have hbd := internStack_bd p.Stacks l
      have HF := Lib.hid (show addStack p l n = if 0 ≤ (internStack p.Stacks l).2 then
          if profileOk (addTo p (internStack p.Stacks l).1 (internStack p.Stacks l).2.toNat n) then (addTo p (internStack p.Stacks l).1 (internStack p.Stacks l).2.toNat n, true) else (p, false)
          else (p, false) from by simp [addStack, hok, hb])
      generalize hr : internStack p.Stacks l = r at hil hbd HF
      obtain ⟨t, q⟩ := r
      simp only at hil hbd HF
      have HR := Lib.hid hr
      have HO := Lib.hid hok
      have HB := Lib.hid hb
      clear hok hb hr
      by_cases hq : 0 ≤ q
      · have HBD := hbd hq
        obtain ⟨hq1, hq2⟩ := HBD
        clear hbd
        obtain ⟨k, rfl⟩ := Int.eq_ofNat_of_zero_le hq
        go_enter Tryz.func29, Tryz.ntmps29
        go_wp2_with (first
          | (go_at_call 25; (with_reducible refine (profileOk_s (p := p) (Ty.up _ hx (by repeat (first | with_reducible exact Gro.refl _ | with_reducible exact Gro.refl_drew _ _ _ | with_reducible exact Gro.refl_drewN _ _ _ _ | assumption | with_reducible apply Gro.more | with_reducible apply Gro.alloc | with_reducible apply Gro.drew | with_reducible apply Gro.drewN))) (Ty.up _ hy (by repeat (first | with_reducible exact Gro.refl _ | with_reducible exact Gro.refl_drew _ _ _ | with_reducible exact Gro.refl_drewN _ _ _ _ | assumption | with_reducible apply Gro.more | with_reducible apply Gro.alloc | with_reducible apply Gro.drew | with_reducible apply Gro.drewN)))).mono ?_); rw [HO.out]; rintro e w1 ⟨rfl, os0, dd0, rfl⟩)
          | (go_at_call 47; (with_reducible refine (in_s _ _ _ _).mono ?_); rw [HB.out]; rintro e w1 ⟨rfl, rfl⟩)
          | (go_at_call 51; (with_reducible refine (copyProfile_s (p := p) (Ty.up _ hx (by repeat (first | with_reducible exact Gro.refl _ | with_reducible exact Gro.refl_drew _ _ _ | with_reducible exact Gro.refl_drewN _ _ _ _ | assumption | with_reducible apply Gro.more | with_reducible apply Gro.alloc | with_reducible apply Gro.drew | with_reducible apply Gro.drewN))) (Ty.up _ hy (by repeat (first | with_reducible exact Gro.refl _ | with_reducible exact Gro.refl_drew _ _ _ | with_reducible exact Gro.refl_drewN _ _ _ _ | assumption | with_reducible apply Gro.more | with_reducible apply Gro.alloc | with_reducible apply Gro.drew | with_reducible apply Gro.drewN))) (by omega) (by omega)).mono ?_); rintro e w1 ⟨B0, d0, B1, d1, rfl, hF, os1, dd1, rfl⟩)
          | (go_at_call 52; (with_reducible refine (internStack_s (t := p.Stacks) (l := l) (Ty.up _ hx (by repeat (first | with_reducible exact Gro.refl _ | with_reducible exact Gro.refl_drew _ _ _ | with_reducible exact Gro.refl_drewN _ _ _ _ | assumption | with_reducible apply Gro.more | with_reducible apply Gro.alloc | with_reducible apply Gro.drew | with_reducible apply Gro.drewN))) (Ty.up _ hl (by repeat (first | with_reducible exact Gro.refl _ | with_reducible exact Gro.refl_drew _ _ _ | with_reducible exact Gro.refl_drewN _ _ _ _ | assumption | with_reducible apply Gro.more | with_reducible apply Gro.alloc | with_reducible apply Gro.drew | with_reducible apply Gro.drewN))) (by omega) (by omega)).mono ?_); rw [HR.out]; rintro e w1 ⟨C0, e0, rfl, hG, os2, dd2, rfl⟩))
        generalize hm : os1.size = m
        have hcl : p.Counts.length = p.Stacks.Nodes.length := by
          have h := HO.out
          simp only [profileOk, Bool.and_eq_true, decide_eq_true_eq] at h
          exact h.2.1
        have HC := Lib.hid (prof_parts hF)
        have HG := Lib.hid (stacks_nodes hG).frN
        have HCL := Lib.hid hcl
        have hcle : p.Counts.length ≤ t.Nodes.length := by omega
        clear hF hG hcl
        go_loopg [] (t.Nodes.length - p.Counts.length) (fun gk wr => ∃ (cs : List Int) (B : Option Addr) (cc : Nat) (os' os3 : Array Obj) (d3 : Nat), gk = t.Nodes.length - cs.length ∧ p.Counts.length ≤ cs.length ∧ cs.length ≤ t.Nodes.length ∧ Hid (os'.size = m) ∧ Hid (wr = (gro ((gro ((gro (gro ((w.alloc (.cells #[.slice A0 p.Stacks.Nodes.length c0, .slice A1 p.Counts.length c1] 29)).alloc (.cells #[.slice none 0 0, .slice none 0 0] 29)) os0 dd0) os' dd1).alloc (.cells #[.slice C0 t.Nodes.length e0, .slice B cs.length cc] 29)) os2 dd2).alloc (.cells #[.slice C0 t.Nodes.length e0] 26)) os3 d3)) ∧ Hid (Fr2N (intT.sl 3) (gro ((w.alloc (.cells #[.slice A0 p.Stacks.Nodes.length c0, .slice A1 p.Counts.length c1] 29)).alloc (.cells #[.slice none 0 0, .slice none 0 0] 29)) os0 dd0).heap.size ((gro ((w.alloc (.cells #[.slice A0 p.Stacks.Nodes.length c0, .slice A1 p.Counts.length c1] 29)).alloc (.cells #[.slice none 0 0, .slice none 0 0] 29)) os0 dd0).heap.size + m) ((gro ((w.alloc (.cells #[.slice A0 p.Stacks.Nodes.length c0, .slice A1 p.Counts.length c1] 29)).alloc (.cells #[.slice none 0 0, .slice none 0 0] 29)) os0 dd0).heap.size + m + 1 + os2.size + 1) wr [.slice B cs.length cc] cs) ∧ Hid (cs = p.Counts ++ List.replicate (cs.length - p.Counts.length) 0))
        case atStart =>
          refine ⟨p.Counts, B1, d1, os1, #[], _, rfl, by omega, by omega, Lib.hid hm, gro_refl, Lib.hid ?_, Lib.hid (by simp)⟩
          have h := HC.out
          rw [gro_size _ _ (w := (gro ((w.alloc (.cells #[.slice A0 p.Stacks.Nodes.length c0, .slice A1 p.Counts.length c1] 29)).alloc (.cells #[.slice none 0 0, .slice none 0 0] 29)) os0 dd0)), hm] at h
          have h2 := h.gro (w2 := (gro ((gro (gro ((w.alloc (.cells #[.slice A0 p.Stacks.Nodes.length c0, .slice A1 p.Counts.length c1] 29)).alloc (.cells #[.slice none 0 0, .slice none 0 0] 29)) os0 dd0) os1 dd1).alloc (.cells #[.slice C0 t.Nodes.length e0, .slice B1 p.Counts.length d1] 29)) os2 dd2).alloc (.cells #[.slice C0 t.Nodes.length e0] 26)) (by repeat (first | with_reducible exact Gro.refl _ | with_reducible exact Gro.refl_drew _ _ _ | with_reducible exact Gro.refl_drewN _ _ _ _ | assumption | with_reducible apply Gro.more | with_reducible apply Gro.alloc | with_reducible apply Gro.drew | with_reducible apply Gro.drewN))
          exact h2.two
        case round =>
          obtain ⟨cs, B, cc, os', os3, d3, hgk, hl1, hl2, hm2, hw, HF2, HCS⟩ := hrel
          have hw' := hw.out
          subst hw'
          clear hw
          have hm' := hm2.out
          by_cases hlt : cs.length < t.Nodes.length
          · go_wp2_with (at_builtin; go_must (refine wpList_append_fone3 (X := (gro ((w.alloc (.cells #[.slice A0 p.Stacks.Nodes.length c0, .slice A1 p.Counts.length c1] 29)).alloc (.cells #[.slice none 0 0, .slice none 0 0] 29)) os0 dd0)) (os := os') (d := dd1) (osm := os2) (dm := dd2) (L := cs.length + 1) rfl (.tmp 44) (.tmp 45) elInt flat_int (HF2.out.gro (by repeat (first | with_reducible exact Gro.refl _ | with_reducible exact Gro.refl_drew _ _ _ | with_reducible exact Gro.refl_drewN _ _ _ _ | assumption | with_reducible apply Gro.more | with_reducible apply Gro.alloc | with_reducible apply Gro.drew | with_reducible apply Gro.drewN))) (by repeat (first | with_reducible exact Gro.refl _ | with_reducible exact Gro.refl_drew _ _ _ | with_reducible exact Gro.refl_drewN _ _ _ _ | assumption | with_reducible apply Gro.more | with_reducible apply Gro.alloc | with_reducible apply Gro.drew | with_reducible apply Gro.drewN)) (by rw [hm']) (by rw [hm']) (W1 := w) (B := 0) (y := (0 : Int)) (ec := [.int .i64 0]) ⟨rfl, by omega, by omega⟩ rfl rfl rfl (by intro i x hx; simpa [go_sem, hm'] using hx) rfl (by omega) (by omega) ?_); intro B2 c3 os6 os7 d7 hs6 hF3)
            go_roundg (gk - 1)
            case measure => omega
            case rel =>
              refine ⟨cs ++ [0], B2, c3, os6, os7, d7, by simp only [List.length_append, List.length_cons, List.length_nil]; omega, by simp only [List.length_append, List.length_cons, List.length_nil]; omega, by simp only [List.length_append, List.length_cons, List.length_nil]; omega, Lib.hid (by omega), Lib.hid (by simp only [List.length_append, List.length_cons, List.length_nil]), Lib.hid ?_, Lib.hid ?_⟩
              · simp only [List.length_append, List.length_cons, List.length_nil]
                exact hF3.same (Same.box3_o (.inl (by omega))) (Same.box3_o (.inr (by omega)))
              · simp only [List.length_append, List.length_cons, List.length_nil]
                rw [show cs.length + (0 + 1) - p.Counts.length = (cs.length - p.Counts.length) + 1 from by omega, List.replicate_succ', ← List.append_assoc, ← HCS.out]
          · have hje : cs.length = t.Nodes.length := by omega
            have hk : k < cs.length := by omega
            have hck : cs[k]? = some cs[k] := List.getElem?_eq_getElem hk
            have hpad : cs = padTo p.Counts t.Nodes.length := by have h := HCS.out; rw [hje] at h; exact h
            have hcb : 0 ≤ cs[k] ∧ cs[k] ≤ 1000000000000 := by
              have h := HO.out
              simp only [profileOk, Bool.and_eq_true] at h
              exact padTo_elem h.2.2 (by rw [← hpad]; exact hck)
            generalize cs[k] = c at hck hcb
            obtain ⟨hc1, hc2⟩ := hcb
            have HQ2 := Lib.hid (show addTo p t k n = ⟨t, cs.set k (c + n)⟩ from by unfold addTo; rw [← hpad, hck]; rfl)
            rw [hje] at HF2 ⊢
            obtain ⟨g, rfl, hgl, hfz, hc, os6, os7, d7, hs6, hset, hF3⟩ := set_box3 (X := (gro ((w.alloc (.cells #[.slice A0 p.Stacks.Nodes.length c0, .slice A1 p.Counts.length c1] 29)).alloc (.cells #[.slice none 0 0, .slice none 0 0] 29)) os0 dd0)) (os := os') (d := dd1) (osm := os2) (dm := dd2) (y := c + n) HF2.out (Gro.of _ _ _) (by rw [hm']) (by rw [hm']) hck ⟨by omega, by omega⟩
            have hN2 : FrN (tNode.sl 48) ((gro ((w.alloc (.cells #[.slice A0 p.Stacks.Nodes.length c0, .slice A1 p.Counts.length c1] 29)).alloc (.cells #[.slice none 0 0, .slice none 0 0] 29)) os0 dd0).heap.size + m + 1) ((gro ((w.alloc (.cells #[.slice A0 p.Stacks.Nodes.length c0, .slice A1 p.Counts.length c1] 29)).alloc (.cells #[.slice none 0 0, .slice none 0 0] 29)) os0 dd0).heap.size + m + 1 + os2.size) (gro ((gro ((gro (gro ((w.alloc (.cells #[.slice A0 p.Stacks.Nodes.length c0, .slice A1 p.Counts.length c1] 29)).alloc (.cells #[.slice none 0 0, .slice none 0 0] 29)) os0 dd0) os6 dd1).alloc (.cells #[.slice C0 t.Nodes.length e0, .slice (some ⟨g, 0, none⟩) t.Nodes.length cc] 29)) os2 dd2).alloc (.cells #[.slice C0 t.Nodes.length e0] 26)) os7 d7) [.slice C0 t.Nodes.length e0] t.Nodes := by
              have h := HG.out
              rw [gro_size _ _ (w := (gro (gro ((w.alloc (.cells #[.slice A0 p.Stacks.Nodes.length c0, .slice A1 p.Counts.length c1] 29)).alloc (.cells #[.slice none 0 0, .slice none 0 0] 29)) os0 dd0) os1 dd1).alloc _), World.size_alloc, gro_size _ _ (w := (gro ((w.alloc (.cells #[.slice A0 p.Stacks.Nodes.length c0, .slice A1 p.Counts.length c1] 29)).alloc (.cells #[.slice none 0 0, .slice none 0 0] 29)) os0 dd0)), hm] at h
              have h2 := (h.gro (w2 := gro ((gro ((gro (gro ((w.alloc (.cells #[.slice A0 p.Stacks.Nodes.length c0, .slice A1 p.Counts.length c1] 29)).alloc (.cells #[.slice none 0 0, .slice none 0 0] 29)) os0 dd0) os1 dd1).alloc (.cells #[.slice B0 p.Stacks.Nodes.length d0, .slice B1 p.Counts.length d1] 29)) os2 dd2).alloc (.cells #[.slice C0 t.Nodes.length e0] 26)) #[] 0) (by repeat (first | with_reducible exact Gro.refl _ | with_reducible exact Gro.refl_drew _ _ _ | with_reducible exact Gro.refl_drewN _ _ _ _ | assumption | with_reducible apply Gro.more | with_reducible apply Gro.alloc | with_reducible apply Gro.drew | with_reducible apply Gro.drewN)))
              exact h2.same (Same.box3_mid (by omega) (by omega) (by omega))
            have HP : ∀ W', (tNode.sl 48).R W' W'.heap.size [.slice C0 t.Nodes.length e0] t.Nodes → (intT.sl 3).R W' W'.heap.size [.slice (some ⟨g, 0, none⟩) t.Nodes.length cc] (cs.set k (c + n)) →
                Calls Tryz.prog 25 #[.agg #[.slice C0 t.Nodes.length e0, .slice (some ⟨g, 0, none⟩) t.Nodes.length cc]] W' fun e w' => e = .returned (.bool (profileOk ⟨t, cs.set k (c + n)⟩)) ∧ Gro W' w' := by
              intro W' a b
              have hln : (cs.set k (c + n)).length = t.Nodes.length := by rw [List.length_set, hje]
              have h := profileOk_s (p := ⟨t, cs.set k (c + n)⟩) (w := W') (A0 := C0) (c0 := e0) (A1 := some ⟨g, 0, none⟩) (c1 := cc) a (by show (intT.sl 3).R W' W'.heap.size [.slice (some ⟨g, 0, none⟩) (cs.set k (c + n)).length cc] (cs.set k (c + n)); rw [hln]; exact b)
              simp only [hln] at h
              exact h
            have HLN := Lib.hid (show (cs.set k (c + n)).length = t.Nodes.length from by rw [List.length_set, hje])
            have HPH := Lib.hid HP
            have HCK := Lib.hid hck
            clear hje hck hpad HP
            cases hfin : profileOk ⟨t, cs.set k (c + n)⟩
            · have HQ := Lib.hid (show addStack p l n = (p, false) from by rw [HF.out, if_pos hq, Int.toNat_natCast, HQ2.out, if_neg (by rw [hfin]; simp)])
              have HFIN := Lib.hid hfin
              clear hfin
              go_wp2_with (fail)
              go_region
              go_wp2_with (first
                | (go_at_call 25; (with_reducible refine (HPH.out _ (Ty.up _ hN2.read (by repeat (first | with_reducible exact Gro.refl _ | with_reducible exact Gro.refl_drew _ _ _ | with_reducible exact Gro.refl_drewN _ _ _ _ | assumption | with_reducible apply Gro.more | with_reducible apply Gro.alloc | with_reducible apply Gro.drew | with_reducible apply Gro.drewN))) (Ty.up _ hF3.read (by repeat (first | with_reducible exact Gro.refl _ | with_reducible exact Gro.refl_drew _ _ _ | with_reducible exact Gro.refl_drewN _ _ _ _ | assumption | with_reducible apply Gro.more | with_reducible apply Gro.alloc | with_reducible apply Gro.drew | with_reducible apply Gro.drewN)))).mono ?_); rw [HFIN.out]; rintro e w1 ⟨rfl, os8, dd8, rfl⟩)
                | (go_at_call 51; (with_reducible refine (copyProfile_s (p := p) (Ty.up _ hx (by repeat (first | with_reducible exact Gro.refl _ | with_reducible exact Gro.refl_drew _ _ _ | with_reducible exact Gro.refl_drewN _ _ _ _ | assumption | with_reducible apply Gro.more | with_reducible apply Gro.alloc | with_reducible apply Gro.drew | with_reducible apply Gro.drewN))) (Ty.up _ hy (by repeat (first | with_reducible exact Gro.refl _ | with_reducible exact Gro.refl_drew _ _ _ | with_reducible exact Gro.refl_drewN _ _ _ _ | assumption | with_reducible apply Gro.more | with_reducible apply Gro.alloc | with_reducible apply Gro.drew | with_reducible apply Gro.drewN))) (by omega) (by omega)).mono ?_); rintro e w1 ⟨E0, f0, E1, f1, rfl, hF9, os9, dd9, rfl⟩))
              refine bodyPost_ret (v := .tuple #[.agg #[.slice E0 p.Stacks.Nodes.length f0, .slice E1 p.Counts.length f1], .bool false]) (by simp [results, Tryz.results29, go_sem, hm']) rfl (ret_profile_bool HQ.out ?_ (by repeat (first | with_reducible exact Gro.refl _ | with_reducible exact Gro.refl_drew _ _ _ | with_reducible exact Gro.refl_drewN _ _ _ _ | assumption | with_reducible apply Gro.more | with_reducible apply Gro.alloc | with_reducible apply Gro.drew | with_reducible apply Gro.drewN)))
              refine (hF9.frN.same ?_).fresh (by simp <;> omega)
              simp only [gro_gro]
              exact Same.box3_base (by simp) (by simp <;> omega)
            · have HQ := Lib.hid (show addStack p l n = (⟨t, cs.set k (c + n)⟩, true) from by rw [HF.out, if_pos hq, Int.toNat_natCast, HQ2.out, if_pos hfin])
              have HFIN := Lib.hid hfin
              clear hfin
              go_wp2_with (fail)
              go_region
              go_wp2_with (first
                | (go_at_call 25; (with_reducible refine (HPH.out _ (Ty.up _ hN2.read (by repeat (first | with_reducible exact Gro.refl _ | with_reducible exact Gro.refl_drew _ _ _ | with_reducible exact Gro.refl_drewN _ _ _ _ | assumption | with_reducible apply Gro.more | with_reducible apply Gro.alloc | with_reducible apply Gro.drew | with_reducible apply Gro.drewN))) (Ty.up _ hF3.read (by repeat (first | with_reducible exact Gro.refl _ | with_reducible exact Gro.refl_drew _ _ _ | with_reducible exact Gro.refl_drewN _ _ _ _ | assumption | with_reducible apply Gro.more | with_reducible apply Gro.alloc | with_reducible apply Gro.drew | with_reducible apply Gro.drewN)))).mono ?_); rw [HFIN.out]; rintro e w1 ⟨rfl, os8, dd8, rfl⟩))
              have hln2 : cs.length = t.Nodes.length := by have h := HLN.out; rwa [List.length_set] at h
              refine bodyPost_ret (v := .tuple #[.agg #[.slice C0 t.Nodes.length e0, .slice (some ⟨g, 0, none⟩) (cs.set k (c + n)).length cc], .bool true]) (by simp [results, Tryz.results29, go_sem, hm', hln2]) rfl (ret_profile_bool (p := ⟨t, cs.set k (c + n)⟩) HQ.out ?_ (by repeat (first | with_reducible exact Gro.refl _ | with_reducible exact Gro.refl_drew _ _ _ | with_reducible exact Gro.refl_drewN _ _ _ _ | assumption | with_reducible apply Gro.more | with_reducible apply Gro.alloc | with_reducible apply Gro.drew | with_reducible apply Gro.drewN)))
              refine profile_of (p := ⟨t, cs.set k (c + n)⟩) (show FrN (tNode.sl 48) _ _ _ [.slice C0 t.Nodes.length e0] t.Nodes from (hN2.gro (Gro.of _ os8 dd8)).same ?_) (show Fr2N (intT.sl 3) _ _ _ _ [.slice (some ⟨g, 0, none⟩) (cs.set k (c + n)).length cc] (cs.set k (c + n)) from by rw [HLN.out]; exact (hF3.gro (Gro.of _ os8 dd8)).same (by simp only [gro_gro]; exact Same.box3_base (by simp) (by simp <;> omega)) (by simp only [gro_gro]; exact Same.box3_base (by simp) (by simp <;> omega))) (by omega) (by simp <;> omega) (by simp <;> omega) (by simp <;> omega)
              all_goals
                simp only [gro_gro]
                exact Same.box3_base (by simp) (by simp <;> omega)
      · have HQ := Lib.hid (show addStack p l n = (p, false) from by rw [HF.out, if_neg hq])
        go_enter Tryz.func29, Tryz.ntmps29
        go_wp2_with (first
          | (go_at_call 25; (with_reducible refine (profileOk_s (p := p) (Ty.up _ hx (by repeat (first | with_reducible exact Gro.refl _ | with_reducible exact Gro.refl_drew _ _ _ | with_reducible exact Gro.refl_drewN _ _ _ _ | assumption | with_reducible apply Gro.more | with_reducible apply Gro.alloc | with_reducible apply Gro.drew | with_reducible apply Gro.drewN))) (Ty.up _ hy (by repeat (first | with_reducible exact Gro.refl _ | with_reducible exact Gro.refl_drew _ _ _ | with_reducible exact Gro.refl_drewN _ _ _ _ | assumption | with_reducible apply Gro.more | with_reducible apply Gro.alloc | with_reducible apply Gro.drew | with_reducible apply Gro.drewN)))).mono ?_); rw [HO.out]; rintro e w1 ⟨rfl, os0, dd0, rfl⟩)
          | (go_at_call 47; (with_reducible refine (in_s _ _ _ _).mono ?_); rw [HB.out]; rintro e w1 ⟨rfl, rfl⟩)
          | (go_at_call 51; (with_reducible refine (copyProfile_s (p := p) (Ty.up _ hx (by repeat (first | with_reducible exact Gro.refl _ | with_reducible exact Gro.refl_drew _ _ _ | with_reducible exact Gro.refl_drewN _ _ _ _ | assumption | with_reducible apply Gro.more | with_reducible apply Gro.alloc | with_reducible apply Gro.drew | with_reducible apply Gro.drewN))) (Ty.up _ hy (by repeat (first | with_reducible exact Gro.refl _ | with_reducible exact Gro.refl_drew _ _ _ | with_reducible exact Gro.refl_drewN _ _ _ _ | assumption | with_reducible apply Gro.more | with_reducible apply Gro.alloc | with_reducible apply Gro.drew | with_reducible apply Gro.drewN))) (by omega) (by omega)).mono ?_); rintro e w1 ⟨B0, d0, B1, d1, rfl, hF, os1, dd1, rfl⟩)
          | (go_at_call 52; (with_reducible refine (internStack_s (t := p.Stacks) (l := l) (Ty.up _ hx (by repeat (first | with_reducible exact Gro.refl _ | with_reducible exact Gro.refl_drew _ _ _ | with_reducible exact Gro.refl_drewN _ _ _ _ | assumption | with_reducible apply Gro.more | with_reducible apply Gro.alloc | with_reducible apply Gro.drew | with_reducible apply Gro.drewN))) (Ty.up _ hl (by repeat (first | with_reducible exact Gro.refl _ | with_reducible exact Gro.refl_drew _ _ _ | with_reducible exact Gro.refl_drewN _ _ _ _ | assumption | with_reducible apply Gro.more | with_reducible apply Gro.alloc | with_reducible apply Gro.drew | with_reducible apply Gro.drewN))) (by omega) (by omega)).mono ?_); rw [HR.out]; rintro e w1 ⟨C0, e0, rfl, hG, os2, dd2, rfl⟩))
        refine bodyPost_ret (v := .tuple #[.agg #[.slice B0 p.Stacks.Nodes.length d0, .slice B1 p.Counts.length d1], .bool false]) (by simp [results, Tryz.results29, go_sem]) rfl (ret_profile_bool HQ.out ?_ (by repeat (first | with_reducible exact Gro.refl _ | with_reducible exact Gro.refl_drew _ _ _ | with_reducible exact Gro.refl_drewN _ _ _ _ | assumption | with_reducible apply Gro.more | with_reducible apply Gro.alloc | with_reducible apply Gro.drew | with_reducible apply Gro.drewN)))
        exact (hF.frN.same (by simp only [gro_gro]; exact Same.box3_base (by simp) (by simp <;> omega))).fresh (by simp <;> omega)
end Go.Proofs.YtcomafmiclkmhaaGreatDoor
