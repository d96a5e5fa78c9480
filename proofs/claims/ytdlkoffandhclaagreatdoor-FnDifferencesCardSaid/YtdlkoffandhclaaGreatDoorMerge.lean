/-
  MERGE: MergeProfiles of the program and of the reference.
-/
import Derived.Test.YtdlkoffandhclaaGreatDoorTidy
set_option linter.unusedVariables false
set_option linter.unusedSimpArgs false
namespace Go.Proofs.YtdlkoffandhclaaGreatDoor
open Go.RowKit
theorem fresh_gro2 {α : Type} {T : Ty α} {Y : World} {os os' : Array Obj} {d d' : Nat} {cs : List Value} {x : α} (h : Fresh T Y (gro Y os d) cs x) : Fresh T Y (gro Y (os ++ os') d') cs x := by
  rw [← gro_gro os os' d d']
  exact h.gro (Gro.of _ _ _)
theorem gro2_alloc {Y : World} {os os' : Array Obj} {d d' : Nat} {b : Obj} : Gro ((gro Y (os ++ os') d').alloc b) ((gro (gro Y os d) os' d').alloc b) := by
  rw [gro_gro]
  exact Gro.refl _
theorem gro_of2 {Y : World} {os os' : Array Obj} {d d' : Nat} : Gro Y (gro (gro Y os d) os' d') := by
  rw [gro_gro]
  exact Gro.of _ _ _
theorem arr_split (o : Array Obj) (n m : Nat) (h : o.size = n + m) : ∃ x y : Array Obj, o = x ++ y ∧ x.size = n ∧ y.size = m := by
  refine ⟨⟨o.toList.take n⟩, ⟨o.toList.drop n⟩, ?_, ?_, ?_⟩
  · apply Array.toList_inj.1
    simp
  · have : o.toList.length = n + m := by simpa using h
    simp
    omega
  · have : o.toList.length = n + m := by simpa using h
    simp
    omega
section
variable {α : Type} {T : Ty α} {e : TypeId} {P : Program} {t : TypeId} {bytes : Nat} {ops : Array Oper} {o : Oper} {a : Act} {Q : Exit → Act → World → Prop} {K : Act → World → Prop}
/-- 'append(own, read...)' in a region that draws; a box lies behind the list -/
theorem step_append_flat1 {E : Prop} (hgd : o.guard = none) (s x : Operand) (hE : Elem P t e T bytes) (hf : Flat T) {X W : World} {os : Array Obj} {d : Nat} {b : Obj} {A : Option Addr} {n c : Nat} {xs : List α} (h : Fresh (T.sl e) X (Go.Proofs.YtdlkoffandhclaaGreatDoor.gro X os d) [.slice A n c] xs) (hg : Gro ((Go.Proofs.YtdlkoffandhclaaGreatDoor.gro X os d).alloc b) W)
    {B : Nat} {e' : TypeId} {A2 : Option Addr} {m c2 : Nat} {ys : List α} (hy : (T.sl e').R W B [.slice A2 m c2] ys)
    (ho : o.op = .call { callee := .builtin .append, args := #[s, x], argTypes := #[t, t] }) (hs : a.eval s = .slice A n c) (hx : a.eval x = .slice A2 m c2)
    {L : Nat} (hL : L = n + m) (hb : L * bytes ≤ 140737488355328) (h63 : L ≤ 9223372036854775807)
    (hK : ∀ A' c'' os' os2 d2, os'.size = os.size → Fresh (T.sl e) X (Go.Proofs.YtdlkoffandhclaaGreatDoor.gro ((Go.Proofs.YtdlkoffandhclaaGreatDoor.gro X os' d).alloc b) os2 d2) [.slice A' L c''] (xs ++ ys) → K (a.put o.dst (.slice A' L c'')) (Go.Proofs.YtdlkoffandhclaaGreatDoor.gro ((Go.Proofs.YtdlkoffandhclaaGreatDoor.gro X os' d).alloc b) os2 d2)) : if Region.wanted o (yielded ops a.tmps) = true then Oper.wp P o a W K Q else E := by
  have hw : Region.wanted o (yielded ops a.tmps) = true := by simp [Region.wanted, hgd]
  rw [if_pos hw]
  have hfe : Fre (T.sl e) X (Go.Proofs.YtdlkoffandhclaaGreatDoor.gro X os d).heap.size W [.slice A n c] xs := by
    obtain ⟨S, h1, h2, h3⟩ := h.fre
    exact ⟨S, (T.sl e).groO h1 (((Gro.refl _).alloc b).trans hg), h2, h3⟩
  obtain ⟨A', c'', W', hrun, ⟨row, hgr, hrow⟩, hF⟩ := run_append_flat (P := P) (ty := o.type) hE hf (m0 := X.heap.size + os.size + 1) (by have := hg.size; rw [World.size_alloc, gro_size] at this; exact this) hfe hy hL hb h63
  obtain ⟨os', os2, d2, hos, rfl⟩ := relit1 hg hgr (fun k hk => by have := hrow k hk; rw [gro_size] at this; exact this)
  exact wp_of_run_append s x ho hs hx hrun (hK A' c'' os' os2 d2 hos (hF.fresh (by omega)))
/-- .. two calls' blocks lie between -/
theorem step_append_flat2 {E : Prop} (hgd : o.guard = none) (s x : Operand) (hE : Elem P t e T bytes) (hf : Flat T) {X W : World} {os os1 : Array Obj} {d d1 : Nat} {b : Obj} {A : Option Addr} {n c : Nat} {xs : List α} (h : Fresh (T.sl e) X (Go.Proofs.YtdlkoffandhclaaGreatDoor.gro X os d) [.slice A n c] xs) (hg : Gro ((Go.Proofs.YtdlkoffandhclaaGreatDoor.gro (Go.Proofs.YtdlkoffandhclaaGreatDoor.gro X os d) os1 d1).alloc b) W)
    {B : Nat} {e' : TypeId} {A2 : Option Addr} {m c2 : Nat} {ys : List α} (hy : (T.sl e').R W B [.slice A2 m c2] ys)
    (ho : o.op = .call { callee := .builtin .append, args := #[s, x], argTypes := #[t, t] }) (hs : a.eval s = .slice A n c) (hx : a.eval x = .slice A2 m c2)
    {L : Nat} (hL : L = n + m) (hb : L * bytes ≤ 140737488355328) (h63 : L ≤ 9223372036854775807)
    (hK : ∀ A' c'' os' os1' os2 d2, os'.size = os.size → os1'.size = os1.size → Fresh (T.sl e) X (Go.Proofs.YtdlkoffandhclaaGreatDoor.gro ((Go.Proofs.YtdlkoffandhclaaGreatDoor.gro (Go.Proofs.YtdlkoffandhclaaGreatDoor.gro X os' d) os1' d1).alloc b) os2 d2) [.slice A' L c''] (xs ++ ys) → K (a.put o.dst (.slice A' L c'')) (Go.Proofs.YtdlkoffandhclaaGreatDoor.gro ((Go.Proofs.YtdlkoffandhclaaGreatDoor.gro (Go.Proofs.YtdlkoffandhclaaGreatDoor.gro X os' d) os1' d1).alloc b) os2 d2)) : if Region.wanted o (yielded ops a.tmps) = true then Oper.wp P o a W K Q else E := by
  refine step_append_flat1 (os := os ++ os1) (d := d1) (b := b) hgd s x hE hf (fresh_gro2 h) (by rw [← gro_gro os os1 d d1]; exact hg) hy ho hs hx hL hb h63 ?_
  intro A' c'' o9 os2 d2 h9 hF
  rw [Array.size_append] at h9
  obtain ⟨x9, y9, rfl, hx9, hy9⟩ := arr_split o9 _ _ h9
  rw [← gro_gro x9 y9 d d1] at hF ⊢
  exact hK A' c'' x9 y9 os2 d2 hx9 hy9 hF
end
theorem fresh_drew {α : Type} {T : Ty α} {a b : World} {cs : List Value} {x : α} : Fresh T a.drew b cs x = Fresh T a b cs x := rfl
def mergeP (p q : DProfile) : DProfile × Bool := if profileOk p && profileOk q then profR (entriesOf p ++ entriesOf q) else (emptyP, false)
theorem mergeP_len {p q : DProfile} (h : szProfile p + szProfile q ≤ 1048576) : (mergeP p q).1.Stacks.Nodes.length ≤ 122500000000 ∧ (mergeP p q).1.Counts.length ≤ 122500000000 ∧ frSum (entriesOf p ++ entriesOf q) ≤ 122500000000 := by
  have h5 : frSum (entriesOf p ++ entriesOf q) ≤ 122500000000 := by
    rw [frSum_app]
    have hp : frSum (entriesOf p) ≤ p.Stacks.Nodes.length * p.Stacks.Nodes.length := frSum_ents p
    have hq : frSum (entriesOf q) ≤ q.Stacks.Nodes.length * q.Stacks.Nodes.length := frSum_ents q
    cases kp : profileOk p
    · rw [ents_bad kp]
      have h0 : frSum [] = 0 := rfl
      have := frSum_small (p := q) (by omega)
      omega
    · cases kq : profileOk q
      · rw [ents_bad kq]
        have h0 : frSum [] = 0 := rfl
        have := frSum_small (p := p) (by omega)
        omega
      · have h1 := prof_three kp
        have h2 := prof_three kq
        have h4 := sq_le (n := p.Stacks.Nodes.length + q.Stacks.Nodes.length) (m := 350000) (by omega)
        have h6 : (p.Stacks.Nodes.length + q.Stacks.Nodes.length) * (p.Stacks.Nodes.length + q.Stacks.Nodes.length) = p.Stacks.Nodes.length * p.Stacks.Nodes.length + p.Stacks.Nodes.length * q.Stacks.Nodes.length + (q.Stacks.Nodes.length * p.Stacks.Nodes.length + q.Stacks.Nodes.length * q.Stacks.Nodes.length) := by
          rw [Nat.add_mul, Nat.mul_add, Nat.mul_add]
        omega
  refine ⟨?_, ?_, h5⟩
  all_goals
    unfold mergeP
    split
    · have := profR_len (entriesOf p ++ entriesOf q)
      omega
    · exact Nat.zero_le _
theorem ents_sz2 {p q : DProfile} {j : Nat} {e : DEntry} (h : (entriesOf p ++ entriesOf q)[j]? = some e) : e.Stack.size ≤ 12 * (p.Stacks.Nodes.length + q.Stacks.Nodes.length) := by
  have := List.mem_of_getElem? h
  rcases List.mem_append.1 this with h | h
  · obtain ⟨k, hk, rfl⟩ := List.getElem_of_mem h
    have := ents_sz (List.getElem?_eq_getElem hk)
    omega
  · obtain ⟨k, hk, rfl⟩ := List.getElem_of_mem h
    have := ents_sz (List.getElem?_eq_getElem hk)
    omega
set_option maxRecDepth 100000 in
set_option maxHeartbeats 8000000 in
theorem merge_i {p q : DProfile} {m : Int} {w : World} {A0 A1 A2 A3 : Option Addr} {c0 c1 c2 c3 : Nat} (hx : (tNode.sl 92).R w w.heap.size [.slice A0 p.Stacks.Nodes.length c0] p.Stacks.Nodes) (hy : (intT.sl 3).R w w.heap.size [.slice A1 p.Counts.length c1] p.Counts) (hn : p.Stacks.Nodes.length ≤ 16777216)
    (hz : (tNode.sl 92).R w w.heap.size [.slice A2 q.Stacks.Nodes.length c2] q.Stacks.Nodes) (hu : (intT.sl 3).R w w.heap.size [.slice A3 q.Counts.length c3] q.Counts) (hn2 : q.Stacks.Nodes.length ≤ 16777216) (hfr : frSum (entriesOf p ++ entriesOf q) ≤ 500000000000) (hlen : w.cell? ⟨0, 0, none⟩ = some (.int .i64 m)) :
    Calls Tryz.prog 26 #[.agg #[.slice A0 p.Stacks.Nodes.length c0, .slice A1 p.Counts.length c1], .agg #[.slice A2 q.Stacks.Nodes.length c2, .slice A3 q.Counts.length c3]] w (RetProfileBool (mergeP p q) w) := by
  have HM := Lib.hid hlen
  clear hlen
  cases hp : profileOk p
  · have HR := Lib.hid (show mergeP p q = (emptyP, false) from by simp [mergeP, hp])
    have HP := Lib.hid hp
    clear hp
    go_enter Tryz.func26, Tryz.ntmps26
    go_wp2_with (go_at_call 41; (with_reducible refine (profileOk_i (p := p) (Ty.up _ hx (by repeat (first | with_reducible exact Gro.refl _ | with_reducible exact Gro.refl_drew _ _ _ | with_reducible exact Gro.refl_drewN _ _ _ _ | assumption | with_reducible apply Gro.more | with_reducible apply Gro.alloc | with_reducible apply Gro.drew | with_reducible apply Gro.drewN))) (Ty.up _ hy (by repeat (first | with_reducible exact Gro.refl _ | with_reducible exact Gro.refl_drew _ _ _ | with_reducible exact Gro.refl_drewN _ _ _ _ | assumption | with_reducible apply Gro.more | with_reducible apply Gro.alloc | with_reducible apply Gro.drew | with_reducible apply Gro.drewN)))).mono ?_); rw [HP.out]; rintro e w1 ⟨rfl, os1p, d1p, rfl⟩)
    refine bodyPost_ret (v := .tuple #[.agg #[.slice none 0 0, .slice none 0 0], .bool false]) (by simp [results, Tryz.results26, go_sem]) rfl (ret_profile_bool HR.out (fresh_emptyP _ _) (by repeat (first | with_reducible exact Gro.refl _ | with_reducible exact Gro.refl_drew _ _ _ | with_reducible exact Gro.refl_drewN _ _ _ _ | assumption | with_reducible apply Gro.more | with_reducible apply Gro.alloc | with_reducible apply Gro.drew | with_reducible apply Gro.drewN)))
  cases hq : profileOk q
  · have HR := Lib.hid (show mergeP p q = (emptyP, false) from by simp [mergeP, hp, hq])
    have HP := Lib.hid hp
    have HQ := Lib.hid hq
    clear hp hq
    go_enter Tryz.func26, Tryz.ntmps26
    go_wp2_with (first
      | (go_at_call 41; (with_reducible refine (profileOk_i (p := p) (Ty.up _ hx (by repeat (first | with_reducible exact Gro.refl _ | with_reducible exact Gro.refl_drew _ _ _ | with_reducible exact Gro.refl_drewN _ _ _ _ | assumption | with_reducible apply Gro.more | with_reducible apply Gro.alloc | with_reducible apply Gro.drew | with_reducible apply Gro.drewN))) (Ty.up _ hy (by repeat (first | with_reducible exact Gro.refl _ | with_reducible exact Gro.refl_drew _ _ _ | with_reducible exact Gro.refl_drewN _ _ _ _ | assumption | with_reducible apply Gro.more | with_reducible apply Gro.alloc | with_reducible apply Gro.drew | with_reducible apply Gro.drewN)))).mono ?_); rw [HP.out]; rintro e w1 ⟨rfl, os1p, d1p, rfl⟩)
      | (go_at_call 41; (with_reducible refine (profileOk_i (p := q) (Ty.up _ hz (by repeat (first | with_reducible exact Gro.refl _ | with_reducible exact Gro.refl_drew _ _ _ | with_reducible exact Gro.refl_drewN _ _ _ _ | assumption | with_reducible apply Gro.more | with_reducible apply Gro.alloc | with_reducible apply Gro.drew | with_reducible apply Gro.drewN))) (Ty.up _ hu (by repeat (first | with_reducible exact Gro.refl _ | with_reducible exact Gro.refl_drew _ _ _ | with_reducible exact Gro.refl_drewN _ _ _ _ | assumption | with_reducible apply Gro.more | with_reducible apply Gro.alloc | with_reducible apply Gro.drew | with_reducible apply Gro.drewN)))).mono ?_); rw [HQ.out]; rintro e w1 ⟨rfl, os1q, d1q, rfl⟩))
    refine bodyPost_ret (v := .tuple #[.agg #[.slice none 0 0, .slice none 0 0], .bool false]) (by simp [results, Tryz.results26, go_sem]) rfl (ret_profile_bool HR.out (fresh_emptyP _ _) (by repeat (first | with_reducible exact Gro.refl _ | with_reducible exact Gro.refl_drew _ _ _ | with_reducible exact Gro.refl_drewN _ _ _ _ | assumption | with_reducible apply Gro.more | with_reducible apply Gro.alloc | with_reducible apply Gro.drew | with_reducible apply Gro.drewN)))
  have HP := Lib.hid hp
  have HQ := Lib.hid hq
  have hlp := entriesOf_len p
  have hlq := entriesOf_len q
  have hcp := Nat.le_of_eq (pOk_len hp)
  have hcq := Nat.le_of_eq (pOk_len hq)
  obtain ⟨t, ok, ht⟩ : ∃ t ok, profR (entriesOf p ++ entriesOf q) = (t, ok) := ⟨_, _, rfl⟩
  have HR := Lib.hid (show mergeP p q = (t, ok) from by simp only [mergeP, hp, hq, Bool.and_self, if_true]; exact ht)
  obtain ⟨l, hl⟩ : ∃ l, entriesOf p ++ entriesOf q = l := ⟨_, rfl⟩
  have HSZ := Lib.hid (show ∀ (j : Nat) (e : DEntry), l[j]? = some e → e.Stack.size ≤ 12 * (p.Stacks.Nodes.length + q.Stacks.Nodes.length) from fun j e h => ents_sz2 (by rw [hl]; exact h))
  have HL := Lib.hid hl
  have HLL := Lib.hid (show l.length = (entriesOf p).length + (entriesOf q).length from by rw [← hl, List.length_append])
  have hll : l.length ≤ (entriesOf p).length + (entriesOf q).length := Nat.le_of_eq HLL.out
  rw [hl] at ht hfr
  have HT := Lib.hid ht
  clear hp hq ht hl
  go_enter Tryz.func26, Tryz.ntmps26
  go_wp2_with (first
    | (go_at_call 41; (with_reducible refine (profileOk_i (p := p) (Ty.up _ hx (by repeat (first | with_reducible exact Gro.refl _ | with_reducible exact Gro.refl_drew _ _ _ | with_reducible exact Gro.refl_drewN _ _ _ _ | assumption | with_reducible apply Gro.more | with_reducible apply Gro.alloc | with_reducible apply Gro.drew | with_reducible apply Gro.drewN))) (Ty.up _ hy (by repeat (first | with_reducible exact Gro.refl _ | with_reducible exact Gro.refl_drew _ _ _ | with_reducible exact Gro.refl_drewN _ _ _ _ | assumption | with_reducible apply Gro.more | with_reducible apply Gro.alloc | with_reducible apply Gro.drew | with_reducible apply Gro.drewN)))).mono ?_); rw [HP.out]; rintro e w1 ⟨rfl, os1p, d1p, rfl⟩)
    | (go_at_call 41; (with_reducible refine (profileOk_i (p := q) (Ty.up _ hz (by repeat (first | with_reducible exact Gro.refl _ | with_reducible exact Gro.refl_drew _ _ _ | with_reducible exact Gro.refl_drewN _ _ _ _ | assumption | with_reducible apply Gro.more | with_reducible apply Gro.alloc | with_reducible apply Gro.drew | with_reducible apply Gro.drewN))) (Ty.up _ hu (by repeat (first | with_reducible exact Gro.refl _ | with_reducible exact Gro.refl_drew _ _ _ | with_reducible exact Gro.refl_drewN _ _ _ _ | assumption | with_reducible apply Gro.more | with_reducible apply Gro.alloc | with_reducible apply Gro.drew | with_reducible apply Gro.drewN)))).mono ?_); rw [HQ.out]; rintro e w1 ⟨rfl, os1q, d1q, rfl⟩))
  go_region_law (first
    | (go_simp; go_at_call 17; (with_reducible refine (entriesOf_i (p := p) (Ty.up _ hx (by repeat (first | with_reducible exact Gro.refl _ | with_reducible exact Gro.refl_drew _ _ _ | with_reducible exact Gro.refl_drewN _ _ _ _ | assumption | with_reducible apply Gro.more | with_reducible apply Gro.alloc | with_reducible apply Gro.drew | with_reducible apply Gro.drewN))) (Ty.up _ hy (by repeat (first | with_reducible exact Gro.refl _ | with_reducible exact Gro.refl_drew _ _ _ | with_reducible exact Gro.refl_drewN _ _ _ _ | assumption | with_reducible apply Gro.more | with_reducible apply Gro.alloc | with_reducible apply Gro.drew | with_reducible apply Gro.drewN))) (by omega)).mono ?_); rintro e w3 ⟨B3, b3, rfl, hF3, os3, d3, rfl⟩; try simp only [fresh_drew, gro_drew_eq] at hF3)
    | (go_simp; go_at_call 17; (with_reducible refine (entriesOf_i (p := q) (Ty.up _ hz (by repeat (first | with_reducible exact Gro.refl _ | with_reducible exact Gro.refl_drew _ _ _ | with_reducible exact Gro.refl_drewN _ _ _ _ | assumption | with_reducible apply Gro.more | with_reducible apply Gro.alloc | with_reducible apply Gro.drew | with_reducible apply Gro.drewN))) (Ty.up _ hu (by repeat (first | with_reducible exact Gro.refl _ | with_reducible exact Gro.refl_drew _ _ _ | with_reducible exact Gro.refl_drewN _ _ _ _ | assumption | with_reducible apply Gro.more | with_reducible apply Gro.alloc | with_reducible apply Gro.drew | with_reducible apply Gro.drewN))) (by omega)).mono ?_); rintro e w3 ⟨B4, b4, rfl, hF4, os4, d4, rfl⟩; try simp only [fresh_drew, gro_drew_eq] at hF4)
    | (refine step_append_flat (L := l.length) rfl (.tmp 16) (.tmp 18) elEntry flatEntry (hF3.gro (Gro.of _ os4 d4)) gro_of2 (Ty.up _ hF4.read (by (repeat (first | with_reducible exact Gro.refl _ | with_reducible exact Gro.refl_drew _ _ _ | with_reducible exact Gro.refl_drewN _ _ _ _ | assumption | with_reducible apply Gro.more | with_reducible apply Gro.alloc | with_reducible apply Gro.drew | with_reducible apply Gro.drewN)); done)) rfl rfl rfl HLL.out (by omega) (by omega) ?_; intro D5 e5 os5 d5 hF5; rw [HL.out] at hF5)
    | (go_simp; go_at_call 18; (with_reducible refine (profOf_i (l := l) (Ty.up _ hF5.read (by repeat (first | with_reducible exact Gro.refl _ | with_reducible exact Gro.refl_drew _ _ _ | with_reducible exact Gro.refl_drewN _ _ _ _ | assumption | with_reducible apply Gro.more | with_reducible apply Gro.alloc | with_reducible apply Gro.drew | with_reducible apply Gro.drewN))) (fun j e h => by have := HSZ.out j e h; omega) hfr (Gro.cell (by repeat (first | with_reducible exact Gro.refl _ | with_reducible exact Gro.refl_drew _ _ _ | with_reducible exact Gro.refl_drewN _ _ _ _ | assumption | with_reducible apply Gro.more | with_reducible apply Gro.alloc | with_reducible apply Gro.drew | with_reducible apply Gro.drewN)) HM.out)).mono ?_); rw [HT.out]; rintro e w4 ⟨A6, c6, A7, c7, rfl, hF6, os6, d6, rfl⟩))
  all_goals go_wp2_with (fail)
  all_goals refine bodyPost_ret (v := .tuple #[.agg #[.slice A6 t.Stacks.Nodes.length c6, .slice A7 t.Counts.length c7], .bool ok]) (by simp [results, Tryz.results26, go_sem]) rfl (ret_profile_bool HR.out ?_ (by repeat (first | with_reducible exact Gro.refl _ | with_reducible exact Gro.refl_drew _ _ _ | with_reducible exact Gro.refl_drewN _ _ _ _ | assumption | with_reducible apply Gro.more | with_reducible apply Gro.alloc | with_reducible apply Gro.drew | with_reducible apply Gro.drewN)))
  all_goals first
    | (have h9 := hF6
       simp only [gro_alloc, gro_drew_eq, gro_gro] at h9 ⊢
       refine FrN.fresh (FrN.same h9.frN (Same.base ?_ ?_)) ?_
       · simp
       · simp <;> omega
       · simp <;> omega)
    | (have h9 := hF6.gro ((Gro.refl _).alloc (.cells #[.slice A6 t.Stacks.Nodes.length c6, .slice A7 t.Counts.length c7] 33))
       simp only [gro_alloc, gro_drew_eq, gro_gro] at h9 ⊢
       refine FrN.fresh (FrN.same h9.frN (Same.base ?_ ?_)) ?_
       · simp
       · simp <;> omega
       · simp <;> omega)
    | (have h9 := hF6
       simp only [gro_alloc, gro_drew_eq, gro_gro] at h9 ⊢
       refine FrN.fresh (FrN.same h9.frN (Same.tail ?_ ?_ ?_)) ?_
       · simp
       · simp
       · simp <;> omega
       · simp <;> omega)
end Go.Proofs.YtdlkoffandhclaaGreatDoor
