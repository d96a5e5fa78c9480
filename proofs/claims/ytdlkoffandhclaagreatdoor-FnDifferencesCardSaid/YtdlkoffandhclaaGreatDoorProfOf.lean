/-
  PROFILEOF of the program and of the reference.
-/
import Derived.Test.YtdlkoffandhclaaGreatDoorParse3
import Derived.Test.YtdlkoffandhclaaGreatDoorProfile2
import Derived.Test.YtdlkoffandhclaaGreatDoorEntLaw
import Derived.Test.YtdlkoffandhclaaGreatDoorLsEntry
import Derived.BigQuiet
import Derived.Deep.RegionHeld3
set_option linter.unusedVariables false
set_option linter.unusedSimpArgs false
namespace Go.Proofs.YtdlkoffandhclaaGreatDoor
open Go.RowKit
theorem gro_drew_eq (a : World) (os : Array Obj) (d : Nat) : gro a.drew os d = gro a os d := rfl
theorem Same.tail {a b : World} {X Y os : Array Obj} {d d' n m : Nat} (h : b.heap.size = a.heap.size) (hXY : Y.size = X.size) (hn : a.heap.size + X.size ≤ n) : Same n m (Go.Proofs.YtdlkoffandhclaaGreatDoor.gro a (X ++ os) d) (Go.Proofs.YtdlkoffandhclaaGreatDoor.gro b (Y ++ os) d') := by
  intro k hk _
  simp only [Go.Proofs.YtdlkoffandhclaaGreatDoor.gro]
  rw [Array.getElem?_append_right (by omega), Array.getElem?_append_right (by omega), h, Array.getElem?_append_right (by omega), Array.getElem?_append_right (by omega), hXY]
def emptyP : DProfile := ⟨⟨[]⟩, []⟩
theorem emptyP_ok : profileOk emptyP = true := by decide
def stepP (p : DProfile) (e : DEntry) : Option DProfile := if (parseR e.Stack).2 && (addStack p (parseR e.Stack).1 e.Count).2 then some (addStack p (parseR e.Stack).1 e.Count).1 else none
def profL : List DEntry → DProfile → Option DProfile
  | [], p => some p
  | e :: l, p => match stepP p e with
    | some q => profL l q
    | none => none
def profR (l : List DEntry) : DProfile × Bool := match profL l emptyP with
  | some p => (p, true)
  | none => (emptyP, false)
def frs (e : DEntry) : Nat := (parseR e.Stack).1.length
def frSum (l : List DEntry) : Nat := (l.map frs).sum
theorem profL_some {e : DEntry} {l : List DEntry} {p q : DProfile} (h : stepP p e = some q) : profL (e :: l) p = profL l q := by rw [profL, h]
theorem profL_none {e : DEntry} {l : List DEntry} {p : DProfile} (h : stepP p e = none) : profL (e :: l) p = none := by rw [profL, h]
theorem profR_bad {l : List DEntry} (h : profL l emptyP = none) : profR l = (emptyP, false) := by unfold profR; rw [h]
theorem profR_yes {l : List DEntry} {p : DProfile} (h : profL l emptyP = some p) : profR l = (p, true) := by unfold profR; rw [h]
theorem addStack_ok {p : DProfile} {l : List DFrame} {n : Int} (h : (addStack p l n).2 = true) : profileOk (addStack p l n).1 = true := by
  unfold addStack at h ⊢
  split
  · split
    · split
      · rename_i h3
        exact h3
      · rename_i h1 h2 h3
        rw [if_pos h1, if_pos h2, if_neg h3] at h
        cases h
    · rename_i h1 h2
      rw [if_pos h1, if_neg h2] at h
      cases h
  · rename_i h1
    rw [if_neg h1] at h
    cases h
theorem stepP_ok {p q : DProfile} {e : DEntry} (h : stepP p e = some q) : profileOk q = true ∧ q.Stacks.Nodes.length ≤ p.Stacks.Nodes.length + frs e := by
  unfold stepP at h
  split at h
  · rename_i k
    simp only [Bool.and_eq_true] at k
    simp only [Option.some.injEq] at h
    subst h
    exact ⟨addStack_ok k.2, (addStack_len _ _ _).1⟩
  · cases h
theorem profL_ok : ∀ {l : List DEntry} {p q : DProfile}, profileOk p = true → profL l p = some q → profileOk q = true ∧ q.Stacks.Nodes.length ≤ p.Stacks.Nodes.length + frSum l
  | [], p, q, hp, h => by
    simp only [profL, Option.some.injEq] at h
    subst h
    exact ⟨hp, Nat.le_add_right _ _⟩
  | e :: l, p, q, hp, h => by
    rw [profL] at h
    split at h
    · rename_i r hr
      have h1 := stepP_ok hr
      have h2 := profL_ok h1.1 h
      simp only [frSum, List.map_cons, List.sum_cons] at h2 ⊢
      exact ⟨h2.1, by omega⟩
    · cases h
theorem profR_len (l : List DEntry) : (profR l).1.Stacks.Nodes.length ≤ frSum l ∧ (profR l).1.Counts.length ≤ frSum l := by
  unfold profR
  split
  · rename_i p h
    have h1 := profL_ok emptyP_ok h
    have h2 := pOk_len h1.1
    have h3 : emptyP.Stacks.Nodes.length = 0 := rfl
    simp only
    omega
  · exact ⟨Nat.zero_le _, Nat.zero_le _⟩
theorem frSum_le (l : List DEntry) : frSum l ≤ szL szEntry l := by
  have h : ∀ l : List DEntry, (l.map frs).sum ≤ l.length + (l.map szEntry).sum := by
    intro l
    induction l with
    | nil => simp
    | cons e l ih =>
      simp only [List.map_cons, List.sum_cons, List.length_cons]
      have h1 : frs e ≤ e.Stack.size + 1 := parseR_len e.Stack
      have h2 : szEntry e = e.Stack.size := rfl
      omega
  unfold szL frSum
  exact h l
theorem sz_elem {l : List DEntry} {j : Nat} {e : DEntry} (h : l[j]? = some e) : e.Stack.size ≤ szL szEntry l := by
  have h1 : ∀ (l : List DEntry), e ∈ l → e.Stack.size ≤ (l.map szEntry).sum := by
    intro l
    induction l with
    | nil => intro h; cases h
    | cons a l ih =>
      intro h
      simp only [List.map_cons, List.sum_cons]
      rcases List.mem_cons.1 h with rfl | h
      · have : szEntry e = e.Stack.size := rfl
        omega
      · have := ih h
        omega
  have := h1 l (List.mem_of_getElem? h)
  unfold szL
  omega
theorem fresh_emptyP (W0 W : World) : Fresh tProfile W0 W [.slice none 0 0, .slice none 0 0] emptyP :=
  tProfile_fresh (x := emptyP) (u0 := W0) (u1 := W0) (m0 := 0) (m1 := 0) (by
    obtain ⟨S, h1, h2, h3⟩ := fre_nil (T := tNode) (e := 92) W0 W
    exact ⟨S, h1, h2, h3⟩) (fre_nil W0 W) (Nat.le_refl _) (Nat.le_refl _) (by omega)
set_option maxRecDepth 100000 in
set_option maxHeartbeats 4000000 in
theorem profOf_i {l : List DEntry} {m : Int} {w : World} {A : Option Addr} {c : Nat} (hx : (tEntry.sl 48).R w w.heap.size [.slice A l.length c] l) (hsz : ∀ (j : Nat) (e : DEntry), l[j]? = some e → e.Stack.size ≤ 1073741824) (hfr : frSum l ≤ 500000000000) (hm : w.cell? ⟨0, 0, none⟩ = some (.int .i64 m)) :
    Calls Tryz.prog 18 #[.slice A l.length c] w (RetProfileBool (profR l) w) := by
  have HM := Lib.hid hm
  have HSZ := Lib.hid hsz
  clear hm hsz
  obtain ⟨_, _, hv, hcc, hcm⟩ := sl_at hx
  injection hv with hA' _ hc'
  subst hA' hc'
  obtain ⟨N, hN⟩ : ∃ N, frSum l = N := ⟨_, rfl⟩
  rw [hN] at hfr
  have HN := Lib.hid hN
  clear hN
  go_enter Tryz.func18, Tryz.ntmps18
  go_wp2_with (fail)
  go_loopw [14] (fun b wr => ∃ (j r : Nat) (p : DProfile) (A0 : Option Addr) (c0 : Nat) (A1 : Option Addr) (c1 : Nat) (os : Array Obj) (d : Nat), b = .int .i64 j ∧ j ≤ l.length ∧ p.Stacks.Nodes.length + r ≤ N ∧ p.Counts.length ≤ p.Stacks.Nodes.length ∧ Hid (frSum (l.drop j) = r) ∧ Hid (profileOk p = true) ∧ Hid (profL (l.drop j) p = profL l emptyP) ∧ Hid (wr = gro ((w.alloc (.cells #[.slice none 0 0, .slice none 0 0] 33)).alloc (.cells #[.slice A0 p.Stacks.Nodes.length c0, .slice A1 p.Counts.length c1] 33)) os d) ∧ Hid (FrN tProfile (w.heap.size + 2) (w.heap.size + 2 + os.size) wr [.slice A0 p.Stacks.Nodes.length c0, .slice A1 p.Counts.length c1] p)) (fun b _ => l.length - (intOf b).toNat)
  case atStart =>
    refine ⟨0, N, emptyP, none, 0, none, 0, #[], World.drawn ((w.alloc (.cells #[.slice none 0 0, .slice none 0 0] 33)).alloc (.cells #[.slice none 0 0, .slice none 0 0] 33)), rfl, by omega, by show 0 + N ≤ N; omega, Nat.le_refl _, Lib.hid (by simpa using HN.out), Lib.hid emptyP_ok, Lib.hid (by simp), Lib.hid (show _ = gro ((w.alloc (.cells #[.slice none 0 0, .slice none 0 0] 33)).alloc (.cells #[.slice none 0 0, .slice none 0 0] 33)) #[] _ from gro_refl), Lib.hid ?_⟩
    have := (fresh_emptyP ((w.alloc (.cells #[.slice none 0 0, .slice none 0 0] 33)).alloc (.cells #[.slice none 0 0, .slice none 0 0] 33)) ((w.alloc (.cells #[.slice none 0 0, .slice none 0 0] 33)).alloc (.cells #[.slice none 0 0, .slice none 0 0] 33))).frN
    exact this.wide (by simp) (by simp)
  case round =>
    obtain ⟨j, r, p, A0, c0, A1, c1, os, d, rfl, hj, hpr, hpc, hr, hok, HT, hw, hF⟩ := hrel
    have hw' := hw.out
    subst hw'
    clear hw
    by_cases hlt : j < l.length
    · obtain ⟨g, off, e, rfl, hgb, hek, he0, he1, be0, be1⟩ := atEntry hx hlt
      have HX := Lib.hid hek
      have hs := HSZ.out j e hek
      have HD := Lib.hid (drop_at hek)
      have hr2 : frs e + frSum (l.drop (j + 1)) ≤ r := by rw [← hr.out, HD.out]; simp [frSum]
      obtain ⟨r2, hr3⟩ : ∃ r2, frSum (l.drop (j + 1)) = r2 := ⟨_, rfl⟩
      rw [hr3] at hr2
      have HR2 := Lib.hid hr3
      clear hek hr3
      obtain ⟨fs, ok, hpq⟩ : ∃ fs ok, parseR e.Stack = (fs, ok) := ⟨_, _, rfl⟩
      have hfl : fs.length ≤ frs e := by unfold frs; rw [hpq]; exact Nat.le_refl _
      have HP := Lib.hid hpq
      have HXL := Lib.hid hx
      clear hpq hx
      cases ok with
      | false =>
        have HB := Lib.hid (profR_bad (l := l) (by rw [← HT.out, HD.out, profL_none (by unfold stepP; rw [HP.out]; rfl)]))
        go_wp2_with (first
          | (go_at_call 56; go_must ((with_reducible refine (parseF_i e.Stack hs (Gro.cell (by repeat (first | with_reducible exact Gro.refl _ | with_reducible exact Gro.refl_drew _ _ _ | with_reducible exact Gro.refl_drewN _ _ _ _ | assumption | with_reducible apply Gro.more | with_reducible apply Gro.alloc | with_reducible apply Gro.drew | with_reducible apply Gro.drewN)) HM.out)).mono ?_)); rw [HP.out]; rintro e9 w2 ⟨A2, c2, rfl, hF2, os2, d2, rfl⟩))
        refine bodyPost_ret (v := .tuple #[.agg #[.slice none 0 0, .slice none 0 0], .bool false]) (by simp [results, Tryz.results18, go_sem]) rfl (ret_profile_bool HB.out (fresh_emptyP _ _) (by repeat (first | with_reducible exact Gro.refl _ | with_reducible exact Gro.refl_drew _ _ _ | with_reducible exact Gro.refl_drewN _ _ _ _ | assumption | with_reducible apply Gro.more | with_reducible apply Gro.alloc | with_reducible apply Gro.drew | with_reducible apply Gro.drewN)))
      | true =>
        obtain ⟨q, fine, hq⟩ : ∃ q fine, addStack p fs e.Count = (q, fine) := ⟨_, _, rfl⟩
        have hql := addStack_len p fs e.Count
        have HQ := Lib.hid hq
        rw [hq] at hql
        simp only at hql
        clear hq
        cases fine with
        | false =>
          have HB := Lib.hid (profR_bad (l := l) (by rw [← HT.out, HD.out, profL_none (by unfold stepP; rw [HP.out]; simp only; rw [HQ.out]; rfl)]))
          go_wp2_with (first
            | (go_at_call 56; go_must ((with_reducible refine (parseF_i e.Stack hs (Gro.cell (by repeat (first | with_reducible exact Gro.refl _ | with_reducible exact Gro.refl_drew _ _ _ | with_reducible exact Gro.refl_drewN _ _ _ _ | assumption | with_reducible apply Gro.more | with_reducible apply Gro.alloc | with_reducible apply Gro.drew | with_reducible apply Gro.drewN)) HM.out)).mono ?_)); rw [HP.out]; rintro e9 w2 ⟨A2, c2, rfl, hF2, os2, d2, rfl⟩)
            | (go_at_call 57; go_must ((with_reducible refine (addStack_i (p := p) (l := fs) (n := e.Count) (Ty.up _ (rdProf hF.out.read).1 (by repeat (first | with_reducible exact Gro.refl _ | with_reducible exact Gro.refl_drew _ _ _ | with_reducible exact Gro.refl_drewN _ _ _ _ | assumption | with_reducible apply Gro.more | with_reducible apply Gro.alloc | with_reducible apply Gro.drew | with_reducible apply Gro.drewN))) (Ty.up _ (rdProf hF.out.read).2 (by repeat (first | with_reducible exact Gro.refl _ | with_reducible exact Gro.refl_drew _ _ _ | with_reducible exact Gro.refl_drewN _ _ _ _ | assumption | with_reducible apply Gro.more | with_reducible apply Gro.alloc | with_reducible apply Gro.drew | with_reducible apply Gro.drewN))) (Ty.up _ hF2.read (by repeat (first | with_reducible exact Gro.refl _ | with_reducible exact Gro.refl_drew _ _ _ | with_reducible exact Gro.refl_drewN _ _ _ _ | assumption | with_reducible apply Gro.more | with_reducible apply Gro.alloc | with_reducible apply Gro.drew | with_reducible apply Gro.drewN))) (by omega) (by omega) (by omega)).mono ?_)); rw [HQ.out]; rintro e9 w3 ⟨A3, c3, A4, c4, rfl, hF3, os3, d3, rfl⟩))
          refine bodyPost_ret (v := .tuple #[.agg #[.slice none 0 0, .slice none 0 0], .bool false]) (by simp [results, Tryz.results18, go_sem]) rfl (ret_profile_bool HB.out (fresh_emptyP _ _) (by repeat (first | with_reducible exact Gro.refl _ | with_reducible exact Gro.refl_drew _ _ _ | with_reducible exact Gro.refl_drewN _ _ _ _ | assumption | with_reducible apply Gro.more | with_reducible apply Gro.alloc | with_reducible apply Gro.drew | with_reducible apply Gro.drewN)))
        | true =>
          have HS := Lib.hid (show stepP p e = some q from by unfold stepP; rw [HP.out]; simp only; rw [HQ.out]; rfl)
          have HK := Lib.hid (stepP_ok HS.out).1
          have hqc : q.Counts.length ≤ q.Stacks.Nodes.length := Nat.le_of_eq (pOk_len HK.out)
          have hqn : q.Stacks.Nodes.length ≤ p.Stacks.Nodes.length + frs e := (stepP_ok HS.out).2
          go_wp2_with (first
            | (go_at_call 56; go_must ((with_reducible refine (parseF_i e.Stack hs (Gro.cell (by repeat (first | with_reducible exact Gro.refl _ | with_reducible exact Gro.refl_drew _ _ _ | with_reducible exact Gro.refl_drewN _ _ _ _ | assumption | with_reducible apply Gro.more | with_reducible apply Gro.alloc | with_reducible apply Gro.drew | with_reducible apply Gro.drewN)) HM.out)).mono ?_)); rw [HP.out]; rintro e9 w2 ⟨A2, c2, rfl, hF2, os2, d2, rfl⟩)
            | (go_at_call 57; go_must ((with_reducible refine (addStack_i (p := p) (l := fs) (n := e.Count) (Ty.up _ (rdProf hF.out.read).1 (by repeat (first | with_reducible exact Gro.refl _ | with_reducible exact Gro.refl_drew _ _ _ | with_reducible exact Gro.refl_drewN _ _ _ _ | assumption | with_reducible apply Gro.more | with_reducible apply Gro.alloc | with_reducible apply Gro.drew | with_reducible apply Gro.drewN))) (Ty.up _ (rdProf hF.out.read).2 (by repeat (first | with_reducible exact Gro.refl _ | with_reducible exact Gro.refl_drew _ _ _ | with_reducible exact Gro.refl_drewN _ _ _ _ | assumption | with_reducible apply Gro.more | with_reducible apply Gro.alloc | with_reducible apply Gro.drew | with_reducible apply Gro.drewN))) (Ty.up _ hF2.read (by repeat (first | with_reducible exact Gro.refl _ | with_reducible exact Gro.refl_drew _ _ _ | with_reducible exact Gro.refl_drewN _ _ _ _ | assumption | with_reducible apply Gro.more | with_reducible apply Gro.alloc | with_reducible apply Gro.drew | with_reducible apply Gro.drewN))) (by omega) (by omega) (by omega)).mono ?_)); rw [HQ.out]; rintro e9 w3 ⟨A3, c3, A4, c4, rfl, hF3, os3, d3, rfl⟩))
          go_roundw
          case rel =>
            refine ⟨j + 1, r2, q, A3, c3, A4, c4, _, _, by go_num, by omega, by omega, hqc, HR2, HK, Lib.hid (by rw [← HT.out, HD.out, profL_some HS.out]), Lib.hid (by simp only [gro_alloc, gro_gro]; rfl), Lib.hid ?_⟩
            have h9 := hF3.gro ((Gro.refl _).alloc (.cells #[.slice A3 q.Stacks.Nodes.length c3, .slice A4 q.Counts.length c4] 33))
            simp only [gro_alloc, gro_gro] at h9 ⊢
            refine FrN.wide (FrN.same h9.frN (Same.base ?_ ?_)) ?_ ?_
            · simp
            · simp <;> omega
            · simp <;> omega
            · simp <;> omega
          case measure => simp [intOf]; omega
    · have hje : j = l.length := by omega
      subst hje
      have HE := Lib.hid (profR_yes (l := l) (p := p) (by rw [← HT.out, List.drop_length]; rfl))
      go_wp2_with (fail)
      refine bodyPost_ret (v := .tuple #[.agg #[.slice A0 p.Stacks.Nodes.length c0, .slice A1 p.Counts.length c1], .bool true]) (by simp [results, Tryz.results18, go_sem]) rfl (ret_profile_bool HE.out ?_ (by repeat (first | with_reducible exact Gro.refl _ | with_reducible exact Gro.refl_drew _ _ _ | with_reducible exact Gro.refl_drewN _ _ _ _ | assumption | with_reducible apply Gro.more | with_reducible apply Gro.alloc | with_reducible apply Gro.drew | with_reducible apply Gro.drewN)))
      exact (hF.out.same (Same.base (by simp) (by simp))).fresh (by simp)
set_option maxRecDepth 100000 in
set_option maxHeartbeats 4000000 in
theorem profOf_s {l : List DEntry} {w : World} {A : Option Addr} {c : Nat} (hx : (tEntry.sl 48).R w w.heap.size [.slice A l.length c] l) (hsz : ∀ (j : Nat) (e : DEntry), l[j]? = some e → e.Stack.size ≤ 1073741824) (hfr : frSum l ≤ 500000000000) :
    Calls Tryz.prog 24 #[.slice A l.length c] w (RetProfileBool (profR l) w) := by
  have HSZ := Lib.hid hsz
  clear hsz
  obtain ⟨_, _, hv, hcc, hcm⟩ := sl_at hx
  injection hv with hA' _ hc'
  subst hA' hc'
  obtain ⟨N, hN⟩ : ∃ N, frSum l = N := ⟨_, rfl⟩
  rw [hN] at hfr
  have HN := Lib.hid hN
  clear hN
  go_enter Tryz.func24, Tryz.ntmps24
  go_wp2_with (fail)
  go_loopw [5] (fun b wr => ∃ (j r : Nat) (p : DProfile) (A0 : Option Addr) (c0 : Nat) (A1 : Option Addr) (c1 : Nat) (os : Array Obj) (d : Nat), b = .int .i64 j ∧ j ≤ l.length ∧ p.Stacks.Nodes.length + r ≤ N ∧ p.Counts.length ≤ p.Stacks.Nodes.length ∧ Hid (frSum (l.drop j) = r) ∧ Hid (profileOk p = true) ∧ Hid (profL (l.drop j) p = profL l emptyP) ∧ Hid (wr = gro ((w.alloc (.cells #[.slice none 0 0, .slice none 0 0] 33)).alloc (.cells #[.slice A0 p.Stacks.Nodes.length c0, .slice A1 p.Counts.length c1] 33)) os d) ∧ Hid (FrN tProfile (w.heap.size + 2) (w.heap.size + 2 + os.size) wr [.slice A0 p.Stacks.Nodes.length c0, .slice A1 p.Counts.length c1] p)) (fun b _ => l.length - (intOf b).toNat)
  case atStart =>
    refine ⟨0, N, emptyP, none, 0, none, 0, #[], World.drawn ((w.alloc (.cells #[.slice none 0 0, .slice none 0 0] 33)).alloc (.cells #[.slice none 0 0, .slice none 0 0] 33)), rfl, by omega, by show 0 + N ≤ N; omega, Nat.le_refl _, Lib.hid (by simpa using HN.out), Lib.hid emptyP_ok, Lib.hid (by simp), Lib.hid (show _ = gro ((w.alloc (.cells #[.slice none 0 0, .slice none 0 0] 33)).alloc (.cells #[.slice none 0 0, .slice none 0 0] 33)) #[] _ from gro_refl), Lib.hid ?_⟩
    have := (fresh_emptyP ((w.alloc (.cells #[.slice none 0 0, .slice none 0 0] 33)).alloc (.cells #[.slice none 0 0, .slice none 0 0] 33)) ((w.alloc (.cells #[.slice none 0 0, .slice none 0 0] 33)).alloc (.cells #[.slice none 0 0, .slice none 0 0] 33))).frN
    exact this.wide (by simp) (by simp)
  case round =>
    obtain ⟨j, r, p, A0, c0, A1, c1, os, d, rfl, hj, hpr, hpc, hr, hok, HT, hw, hF⟩ := hrel
    have hw' := hw.out
    subst hw'
    clear hw
    by_cases hlt : j < l.length
    · obtain ⟨g, off, e, rfl, hgb, hek, he0, he1, be0, be1⟩ := atEntry hx hlt
      have HX := Lib.hid hek
      have hs := HSZ.out j e hek
      have HD := Lib.hid (drop_at hek)
      have hr2 : frs e + frSum (l.drop (j + 1)) ≤ r := by rw [← hr.out, HD.out]; simp [frSum]
      obtain ⟨r2, hr3⟩ : ∃ r2, frSum (l.drop (j + 1)) = r2 := ⟨_, rfl⟩
      rw [hr3] at hr2
      have HR2 := Lib.hid hr3
      clear hek hr3
      obtain ⟨fs, ok, hpq⟩ : ∃ fs ok, parseR e.Stack = (fs, ok) := ⟨_, _, rfl⟩
      have hfl : fs.length ≤ frs e := by unfold frs; rw [hpq]; exact Nat.le_refl _
      have HP := Lib.hid hpq
      have HXL := Lib.hid hx
      clear hpq hx
      obtain ⟨q, fine, hq⟩ : ∃ q fine, addStack p fs e.Count = (q, fine) := ⟨_, _, rfl⟩
      have HQ := Lib.hid hq
      clear hq
      cases hgd : (ok && fine) with
      | false =>
        have HB := Lib.hid (profR_bad (l := l) (by rw [← HT.out, HD.out, profL_none (by unfold stepP; rw [HP.out]; simp only; rw [HQ.out]; simp [hgd])]))
        have HG := Lib.hid hgd
        clear hgd
        cases ok
        case true =>
          obtain rfl : fine = false := by simpa using HG.out
          have hb0 : (gro ((w.alloc (.cells #[.slice none 0 0, .slice none 0 0] 33)).alloc (.cells #[.slice A0 p.Stacks.Nodes.length c0, .slice A1 p.Counts.length c1] 33)) os d).cell? ⟨w.heap.size + 1, 0, none⟩ = some (.slice A0 p.Stacks.Nodes.length c0) := by simp [go_sem]
          have hb1 : (gro ((w.alloc (.cells #[.slice none 0 0, .slice none 0 0] 33)).alloc (.cells #[.slice A0 p.Stacks.Nodes.length c0, .slice A1 p.Counts.length c1] 33)) os d).cell? ⟨w.heap.size + 1, 1, none⟩ = some (.slice A1 p.Counts.length c1) := by simp [go_sem]
          have hb2 : (gro ((w.alloc (.cells #[.slice none 0 0, .slice none 0 0] 33)).alloc (.cells #[.slice A0 p.Stacks.Nodes.length c0, .slice A1 p.Counts.length c1] 33)) os d).cell? ⟨g, off + j * 2 + 1, none⟩ = some (.int .i64 e.Count) := gro_keeps (alloc_keeps (alloc_keeps he1 _) _) _ _
          go_wp2_with (go_at_call 60; go_must ((with_reducible refine (parseF_s e.Stack _ hs).mono ?_)); rw [HP.out]; rintro e9 w2 ⟨A2, c2, rfl, hF2, os2, d2, rfl⟩; replace hb0 := gro_keeps hb0 os2 d2; replace hb1 := gro_keeps hb1 os2 d2; replace hb2 := gro_keeps hb2 os2 d2)
          go_region_held3 (fun w' => w'.cell? ⟨w.heap.size + 1, 0, none⟩ = some (.slice A0 p.Stacks.Nodes.length c0) ∧ w'.cell? ⟨w.heap.size + 1, 1, none⟩ = some (.slice A1 p.Counts.length c1) ∧ w'.cell? ⟨g, off + j * 2 + 1, none⟩ = some (.int .i64 e.Count)) ((repeat' apply And.intro) <;> (first | ((repeat (first | assumption | with_reducible refine gro_keeps ?_ _ _ | with_reducible refine alloc_keeps ?_ _ | with_reducible refine drew_keeps ?_)); done) | (simp [go_sem]; done))) (first
            | (go_at_call 61; (with_reducible refine (addStack_s (p := p) (l := fs) (n := e.Count) (Ty.up _ (rdProf hF.out.read).1 (by repeat (first | with_reducible exact Gro.refl _ | with_reducible exact Gro.refl_drew _ _ _ | with_reducible exact Gro.refl_drewN _ _ _ _ | assumption | with_reducible apply Gro.more | with_reducible apply Gro.alloc | with_reducible apply Gro.drew | with_reducible apply Gro.drewN))) (Ty.up _ (rdProf hF.out.read).2 (by repeat (first | with_reducible exact Gro.refl _ | with_reducible exact Gro.refl_drew _ _ _ | with_reducible exact Gro.refl_drewN _ _ _ _ | assumption | with_reducible apply Gro.more | with_reducible apply Gro.alloc | with_reducible apply Gro.drew | with_reducible apply Gro.drewN))) (Ty.up _ hF2.read (by repeat (first | with_reducible exact Gro.refl _ | with_reducible exact Gro.refl_drew _ _ _ | with_reducible exact Gro.refl_drewN _ _ _ _ | assumption | with_reducible apply Gro.more | with_reducible apply Gro.alloc | with_reducible apply Gro.drew | with_reducible apply Gro.drewN))) (by omega) (by omega) (by omega)).mono ?_); rw [HQ.out]; rintro e9 w3 ⟨A3, c3, A4, c4, rfl, hF3, os3, d3, rfl⟩))
          all_goals go_wp2_with (fail)
          all_goals refine bodyPost_ret (v := .tuple #[.agg #[.slice none 0 0, .slice none 0 0], .bool false]) (by simp [results, Tryz.results24, go_sem]) rfl (ret_profile_bool HB.out (fresh_emptyP _ _) (by repeat (first | with_reducible exact Gro.refl _ | with_reducible exact Gro.refl_drew _ _ _ | with_reducible exact Gro.refl_drewN _ _ _ _ | assumption | with_reducible apply Gro.more | with_reducible apply Gro.alloc | with_reducible apply Gro.drew | with_reducible apply Gro.drewN)))
        case false =>
          have hb0 : (gro ((w.alloc (.cells #[.slice none 0 0, .slice none 0 0] 33)).alloc (.cells #[.slice A0 p.Stacks.Nodes.length c0, .slice A1 p.Counts.length c1] 33)) os d).cell? ⟨w.heap.size + 1, 0, none⟩ = some (.slice A0 p.Stacks.Nodes.length c0) := by simp [go_sem]
          have hb1 : (gro ((w.alloc (.cells #[.slice none 0 0, .slice none 0 0] 33)).alloc (.cells #[.slice A0 p.Stacks.Nodes.length c0, .slice A1 p.Counts.length c1] 33)) os d).cell? ⟨w.heap.size + 1, 1, none⟩ = some (.slice A1 p.Counts.length c1) := by simp [go_sem]
          have hb2 : (gro ((w.alloc (.cells #[.slice none 0 0, .slice none 0 0] 33)).alloc (.cells #[.slice A0 p.Stacks.Nodes.length c0, .slice A1 p.Counts.length c1] 33)) os d).cell? ⟨g, off + j * 2 + 1, none⟩ = some (.int .i64 e.Count) := gro_keeps (alloc_keeps (alloc_keeps he1 _) _) _ _
          go_wp2_with (go_at_call 60; go_must ((with_reducible refine (parseF_s e.Stack _ hs).mono ?_)); rw [HP.out]; rintro e9 w2 ⟨A2, c2, rfl, hF2, os2, d2, rfl⟩; replace hb0 := gro_keeps hb0 os2 d2; replace hb1 := gro_keeps hb1 os2 d2; replace hb2 := gro_keeps hb2 os2 d2)
          go_region_held3 (fun w' => w'.cell? ⟨w.heap.size + 1, 0, none⟩ = some (.slice A0 p.Stacks.Nodes.length c0) ∧ w'.cell? ⟨w.heap.size + 1, 1, none⟩ = some (.slice A1 p.Counts.length c1) ∧ w'.cell? ⟨g, off + j * 2 + 1, none⟩ = some (.int .i64 e.Count)) ((repeat' apply And.intro) <;> (first | ((repeat (first | assumption | with_reducible refine gro_keeps ?_ _ _ | with_reducible refine alloc_keeps ?_ _ | with_reducible refine drew_keeps ?_)); done) | (simp [go_sem]; done))) (first
            | (go_at_call 61; (with_reducible refine (addStack_s (p := p) (l := fs) (n := e.Count) (Ty.up _ (rdProf hF.out.read).1 (by repeat (first | with_reducible exact Gro.refl _ | with_reducible exact Gro.refl_drew _ _ _ | with_reducible exact Gro.refl_drewN _ _ _ _ | assumption | with_reducible apply Gro.more | with_reducible apply Gro.alloc | with_reducible apply Gro.drew | with_reducible apply Gro.drewN))) (Ty.up _ (rdProf hF.out.read).2 (by repeat (first | with_reducible exact Gro.refl _ | with_reducible exact Gro.refl_drew _ _ _ | with_reducible exact Gro.refl_drewN _ _ _ _ | assumption | with_reducible apply Gro.more | with_reducible apply Gro.alloc | with_reducible apply Gro.drew | with_reducible apply Gro.drewN))) (Ty.up _ hF2.read (by repeat (first | with_reducible exact Gro.refl _ | with_reducible exact Gro.refl_drew _ _ _ | with_reducible exact Gro.refl_drewN _ _ _ _ | assumption | with_reducible apply Gro.more | with_reducible apply Gro.alloc | with_reducible apply Gro.drew | with_reducible apply Gro.drewN))) (by omega) (by omega) (by omega)).mono ?_); rw [HQ.out]; rintro e9 w3 ⟨A3, c3, A4, c4, rfl, hF3, os3, d3, rfl⟩))
          all_goals go_wp2_with (fail)
          all_goals refine bodyPost_ret (v := .tuple #[.agg #[.slice none 0 0, .slice none 0 0], .bool false]) (by simp [results, Tryz.results24, go_sem]) rfl (ret_profile_bool HB.out (fresh_emptyP _ _) (by repeat (first | with_reducible exact Gro.refl _ | with_reducible exact Gro.refl_drew _ _ _ | with_reducible exact Gro.refl_drewN _ _ _ _ | assumption | with_reducible apply Gro.more | with_reducible apply Gro.alloc | with_reducible apply Gro.drew | with_reducible apply Gro.drewN)))
      | true =>
        simp only [Bool.and_eq_true] at hgd
        obtain ⟨rfl, rfl⟩ := hgd
        have HS := Lib.hid (show stepP p e = some q from by unfold stepP; rw [HP.out]; simp only; rw [HQ.out]; rfl)
        have HK := Lib.hid (stepP_ok HS.out).1
        have hqc : q.Counts.length ≤ q.Stacks.Nodes.length := Nat.le_of_eq (pOk_len HK.out)
        have hqn : q.Stacks.Nodes.length ≤ p.Stacks.Nodes.length + frs e := (stepP_ok HS.out).2
        have hb0 : (gro ((w.alloc (.cells #[.slice none 0 0, .slice none 0 0] 33)).alloc (.cells #[.slice A0 p.Stacks.Nodes.length c0, .slice A1 p.Counts.length c1] 33)) os d).cell? ⟨w.heap.size + 1, 0, none⟩ = some (.slice A0 p.Stacks.Nodes.length c0) := by simp [go_sem]
        have hb1 : (gro ((w.alloc (.cells #[.slice none 0 0, .slice none 0 0] 33)).alloc (.cells #[.slice A0 p.Stacks.Nodes.length c0, .slice A1 p.Counts.length c1] 33)) os d).cell? ⟨w.heap.size + 1, 1, none⟩ = some (.slice A1 p.Counts.length c1) := by simp [go_sem]
        have hb2 : (gro ((w.alloc (.cells #[.slice none 0 0, .slice none 0 0] 33)).alloc (.cells #[.slice A0 p.Stacks.Nodes.length c0, .slice A1 p.Counts.length c1] 33)) os d).cell? ⟨g, off + j * 2 + 1, none⟩ = some (.int .i64 e.Count) := gro_keeps (alloc_keeps (alloc_keeps he1 _) _) _ _
        go_wp2_with (go_at_call 60; go_must ((with_reducible refine (parseF_s e.Stack _ hs).mono ?_)); rw [HP.out]; rintro e9 w2 ⟨A2, c2, rfl, hF2, os2, d2, rfl⟩; replace hb0 := gro_keeps hb0 os2 d2; replace hb1 := gro_keeps hb1 os2 d2; replace hb2 := gro_keeps hb2 os2 d2)
        go_region_held3 (fun w' => w'.cell? ⟨w.heap.size + 1, 0, none⟩ = some (.slice A0 p.Stacks.Nodes.length c0) ∧ w'.cell? ⟨w.heap.size + 1, 1, none⟩ = some (.slice A1 p.Counts.length c1) ∧ w'.cell? ⟨g, off + j * 2 + 1, none⟩ = some (.int .i64 e.Count)) ((repeat' apply And.intro) <;> (first | ((repeat (first | assumption | with_reducible refine gro_keeps ?_ _ _ | with_reducible refine alloc_keeps ?_ _ | with_reducible refine drew_keeps ?_)); done) | (simp [go_sem]; done))) (first
          | (go_at_call 61; (with_reducible refine (addStack_s (p := p) (l := fs) (n := e.Count) (Ty.up _ (rdProf hF.out.read).1 (by repeat (first | with_reducible exact Gro.refl _ | with_reducible exact Gro.refl_drew _ _ _ | with_reducible exact Gro.refl_drewN _ _ _ _ | assumption | with_reducible apply Gro.more | with_reducible apply Gro.alloc | with_reducible apply Gro.drew | with_reducible apply Gro.drewN))) (Ty.up _ (rdProf hF.out.read).2 (by repeat (first | with_reducible exact Gro.refl _ | with_reducible exact Gro.refl_drew _ _ _ | with_reducible exact Gro.refl_drewN _ _ _ _ | assumption | with_reducible apply Gro.more | with_reducible apply Gro.alloc | with_reducible apply Gro.drew | with_reducible apply Gro.drewN))) (Ty.up _ hF2.read (by repeat (first | with_reducible exact Gro.refl _ | with_reducible exact Gro.refl_drew _ _ _ | with_reducible exact Gro.refl_drewN _ _ _ _ | assumption | with_reducible apply Gro.more | with_reducible apply Gro.alloc | with_reducible apply Gro.drew | with_reducible apply Gro.drewN))) (by omega) (by omega) (by omega)).mono ?_); rw [HQ.out]; rintro e9 w3 ⟨A3, c3, A4, c4, rfl, hF3, os3, d3, rfl⟩))
        all_goals go_wp2_with (fail)
        all_goals go_roundw
        all_goals try (case measure => simp [intOf]; omega)
        all_goals refine ⟨j + 1, r2, q, A3, c3, A4, c4, _, _, by go_num, by omega, by omega, hqc, HR2, HK, Lib.hid (by rw [← HT.out, HD.out, profL_some HS.out]), Lib.hid (by simp only [gro_alloc, gro_gro]; rfl), Lib.hid ?_⟩
        all_goals first
          | (have h9 := hF3.gro ((Gro.refl _).alloc (.cells #[.slice A3 q.Stacks.Nodes.length c3, .slice A4 q.Counts.length c4] 33))
             simp only [gro_alloc, gro_drew_eq, gro_gro] at h9 ⊢
             refine FrN.wide (FrN.same h9.frN (Same.base ?_ ?_)) ?_ ?_
             · simp
             · simp <;> omega
             · simp <;> omega
             · simp <;> omega)
          | (have h9 := hF3
             simp only [gro_alloc, gro_drew_eq, gro_gro] at h9 ⊢
             refine FrN.wide (FrN.same h9.frN (Same.tail ?_ ?_ ?_)) ?_ ?_
             · simp
             · simp
             · simp <;> omega
             · simp <;> omega
             · simp <;> omega)
    · have hje : j = l.length := by omega
      subst hje
      have HE := Lib.hid (profR_yes (l := l) (p := p) (by rw [← HT.out, List.drop_length]; rfl))
      go_wp2_with (fail)
      refine bodyPost_ret (v := .tuple #[.agg #[.slice A0 p.Stacks.Nodes.length c0, .slice A1 p.Counts.length c1], .bool true]) (by simp [results, Tryz.results24, go_sem]) rfl (ret_profile_bool HE.out ?_ (by repeat (first | with_reducible exact Gro.refl _ | with_reducible exact Gro.refl_drew _ _ _ | with_reducible exact Gro.refl_drewN _ _ _ _ | assumption | with_reducible apply Gro.more | with_reducible apply Gro.alloc | with_reducible apply Gro.drew | with_reducible apply Gro.drewN)))
      exact (hF.out.same (Same.base (by simp) (by simp))).fresh (by simp)
end Go.Proofs.YtdlkoffandhclaaGreatDoor
