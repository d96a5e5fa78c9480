/-
  NAMES, PART 2: the library's sort and compaction on a list of strings of the call's own; NamesOf of the program.
-/
import Derived.Test.YtcomafmiclkmhaaGreatDoorNames
import Derived.Test.YtcomafmiclkmhaaGreatDoorShelf
import Derived.Sort.OwnSorted
set_option linter.unusedVariables false
set_option linter.unusedSimpArgs false
namespace Go.Proofs.YtcomafmiclkmhaaGreatDoor
open Go.RowKit Go.Sort
theorem rows_strs {w : World} : ∀ {xs : List ByteArray} {cs : List Value} {S : List Nat}, Rows strT w cs xs S → cs = xs.map Value.string ∧ S = [] ∧ ∀ x ∈ xs, x.size ≤ 9223372036854775807
  | [], _, _, h => ⟨h.1, h.2, fun x hx => by cases hx⟩
  | x :: xs, _, _, ⟨c1, c2, S1, S2, h1, h2, h3, h4⟩ => by
    obtain ⟨rfl, hs, rfl⟩ := h3
    obtain ⟨rfl, rfl, h5⟩ := rows_strs h4
    refine ⟨h1, h2, fun y hy => ?_⟩
    rcases List.mem_cons.1 hy with rfl | hy
    · exact hs
    · exact h5 y hy
theorem strs_rows {w : World} : ∀ {xs : List ByteArray}, (∀ x ∈ xs, x.size ≤ 9223372036854775807) → Rows strT w (xs.map Value.string) xs []
  | [], _ => ⟨rfl, rfl⟩
  | x :: xs, h => ⟨[.string x], xs.map Value.string, [], [], rfl, rfl, ⟨rfl, h x List.mem_cons_self, rfl⟩, strs_rows (fun y hy => h y (List.mem_cons_of_mem _ hy))⟩
theorem strs_own {e : TypeId} {W0 W : World} {A : Option Addr} {c : Nat} {xs : List ByteArray} (h : Fresh (strT.sl e) W0 W [.slice A xs.length c] xs) :
    (∀ x ∈ xs, x.size ≤ 9223372036854775807) ∧ ((A = none ∧ xs = [] ∧ c = 0) ∨ ∃ g cur, A = some ⟨g, 0, none⟩ ∧ W0.heap.size ≤ g ∧ W.heap[g]? = some (.cells cur e (0, 0)) ∧ xs.length ≤ c ∧ c ≤ maxLen ∧ cur.size = c * 1 ∧ cur.toList.take xs.length = xs.map Value.string) := by
  obtain ⟨S, ⟨A', c', ecs, S', h1, ⟨h2, h3⟩, h4, rfl⟩, h5, h6⟩ := h
  simp only [List.cons.injEq, Value.slice.injEq, and_true, true_and] at h1
  obtain ⟨rfl, rfl⟩ := h1
  obtain ⟨rfl, rfl, hsz⟩ := rows_strs h4
  refine ⟨hsz, ?_⟩
  rcases h3 with ⟨h7, h8⟩ | ⟨g, cap, cur, h7, h8, h9, h10, h11, h12, h13⟩
  · simp only [Value.slice.injEq] at h7
    exact .inl ⟨h7.1, List.eq_nil_of_length_eq_zero h8, h7.2.2⟩
  · simp only [Value.slice.injEq, true_and] at h7
    obtain ⟨rfl, rfl⟩ := h7
    exact .inr ⟨g, cur, rfl, h6 g (by simp [blockOf]), h9, h10, h11, h12, by simpa [strT] using h13⟩
theorem strs_mk {e : TypeId} {W0 W : World} {g c : Nat} {cur : Array Value} {ys : List ByteArray} (hg : W0.heap.size ≤ g) (hb : W.heap[g]? = some (.cells cur e (0, 0))) (hc : ys.length ≤ c) (hm : c ≤ maxLen) (hs : cur.size = c * 1) (ht : cur.toList.take ys.length = ys.map Value.string) (hz : ∀ x ∈ ys, x.size ≤ 9223372036854775807) :
    Fresh (strT.sl e) W0 W [.slice (some ⟨g, 0, none⟩) ys.length c] ys :=
  ⟨[g], ⟨_, c, ys.map Value.string, [], rfl, ⟨by simp [strT], .inr ⟨g, c, cur, rfl, Nat.zero_le _, hb, hc, hm, by simpa [strT] using hs, by simpa [strT] using ht⟩⟩, strs_rows hz, rfl⟩, by simp, fun b hb => by simp at hb; omega⟩
def ba (l : List UInt8) : ByteArray := ⟨l.toArray⟩
theorem bl_ba (l : List UInt8) : bl (ba l) = l := rfl
theorem ba_bl (s : ByteArray) : ba (bl s) = s := by simp [ba, bl]
def sortB (xs : List ByteArray) : List ByteArray := (sortL (xs.map bl)).map ba
def compB (xs : List ByteArray) : List ByteArray := (Lib.compact (xs.map bl)).map ba
theorem sortB_len (xs : List ByteArray) : (sortB xs).length = xs.length := by simp [sortB, sortL]
theorem sortB_mem {xs : List ByteArray} {x : ByteArray} (h : x ∈ sortB xs) : x ∈ xs := by
  unfold sortB at h
  obtain ⟨l, hl, rfl⟩ := List.mem_map.1 h
  obtain ⟨y, hy, rfl⟩ := List.mem_map.1 (sortL_mem.1 hl)
  rw [ba_bl]
  exact hy
theorem comp_sort (xs : List ByteArray) : compB (sortB xs) = xs.foldl insB [] := by
  have h1 : (xs.foldl insB []).map bl = (xs.map bl).foldl insL [] := foldl_insB xs []
  have h2 : (sortB xs).map bl = sortL (xs.map bl) := by
    unfold sortB
    rw [List.map_map]
    exact List.map_id'' (fun _ => rfl) _
  unfold compB
  rw [h2, compact_sort, ← h1, List.map_map]
  exact List.map_id'' (fun x => ba_bl x) _
theorem map_enc (xs : List ByteArray) : (xs.map bl).map encStr = xs.map Value.string := by
  rw [List.map_map]
  refine List.map_congr_left (fun x _ => ?_)
  show Value.string (ba (bl x)) = _
  rw [ba_bl]
theorem grow_eq (w : World) (os : Array Obj) : Go.Sort.grow w os = gro w os w.drawn := rfl
/-- slices.Sort at []string, a list of the call's own -/
theorem sort_own {W0 W : World} {A : Option Addr} {c : Nat} {xs : List ByteArray} (h : Fresh (strT.sl 9) W0 W [.slice A xs.length c] xs) (hg : Gro W0 W) (hl : xs.length ≤ 1099511627776) :
    Calls Tryz.prog 22 #[.slice A xs.length c] W fun e W' => e = .returned (.tuple #[]) ∧ Fresh (strT.sl 9) W0 W' [.slice A xs.length c] (sortB xs) ∧ Gro W0 W' := by
  obtain ⟨hz, ⟨rfl, rfl, rfl⟩ | ⟨g, cur, rfl, h1, h2, h3, h4, h5, h6⟩⟩ := strs_own h
  · refine (Tryz.slices_Sort_string_none _ _ _).mono ?_
    rintro e w' ⟨rfl, rfl⟩
    exact ⟨rfl, by simpa [sortB, sortL] using h, hg⟩
  · have hH : Holds encStr W g 0 (xs.map bl).toArray := holds_of_block h2 (by rw [List.length_map, map_enc]; exact h6)
    have hc := Tryz.slices_Sort_string g 0 c (xs.map bl) W hH (Array.getElem?_eq_some_iff.1 h2).1 (by rw [List.length_map]; omega)
    rw [List.length_map] at hc
    refine hc.mono ?_
    rintro e w' ⟨rfl, n, os, rfl⟩
    refine ⟨rfl, ?_, hg.grown (grownBy_sorted _) (fun k hk => by cases hk; exact h1)⟩
    have hsl : (sortL (xs.map bl)).length = xs.length := by simp [sortL]
    have := strs_mk (e := 9) (W0 := W0) (ys := sortB xs) h1 (heap_sorted (n := n) (os := os) (sortL (xs.map bl)).toArray h2) (by rw [sortB_len]; exact h3) h4 (by simpa [putCells] using h5) (by
      rw [sortB_len, ← hsl, take_putCells cur (sortL (xs.map bl)) (by omega)]
      unfold sortB
      rw [List.map_map]
      rfl) (fun x hx => hz x (sortB_mem hx))
    rw [sortB_len] at this
    exact this
theorem compact_len (zs : List (List UInt8)) : (Lib.compact zs).length ≤ zs.length := by
  unfold Lib.compact Lib.compactUpTo
  rw [List.length_map]
  exact Nat.le_trans (List.length_filter_le _ _) (by simp)
theorem compact_mem {zs : List (List UInt8)} {x : List UInt8} (h : x ∈ Lib.compact zs) : x ∈ zs := by
  unfold Lib.compact Lib.compactUpTo at h
  obtain ⟨j, hj, rfl⟩ := List.mem_map.1 h
  have := List.mem_range.1 (List.mem_filter.1 hj).1
  simp only [List.getElem!_toArray]
  rw [List.getElem!_eq_getElem?_getD, List.getElem?_eq_getElem this]
  exact List.getElem_mem _
/-- slices.Compact at []string, a list of the call's own -/
theorem compact_own {W0 W : World} {A : Option Addr} {c : Nat} {xs : List ByteArray} (h : Fresh (strT.sl 9) W0 W [.slice A xs.length c] xs) (hg : Gro W0 W) (hl : xs.length ≤ 1099511627776) :
    Calls Tryz.prog 23 #[.slice A xs.length c] W fun e W' => e = .returned (.slice A (compB xs).length c) ∧ Fresh (strT.sl 9) W0 W' [.slice A (compB xs).length c] (compB xs) ∧ Gro W0 W' := by
  obtain ⟨hz, ⟨rfl, rfl, rfl⟩ | ⟨g, cur, rfl, h1, h2, h3, h4, h5, h6⟩⟩ := strs_own h
  · refine (Tryz.slices_Compact_string_empty _ _ _).mono ?_
    rintro e w' ⟨rfl, rfl⟩
    exact ⟨rfl, by simpa [compB, Lib.compact, Lib.compactUpTo] using h, hg⟩
  · have hH : Holds encStr W g 0 (xs.map bl).toArray := holds_of_block h2 (by rw [List.length_map, map_enc]; exact h6)
    have hc := Tryz.slices_Compact_string g 0 c (xs.map bl) W hH (by rw [List.length_map]; omega) (by rw [List.length_map]; exact h3)
    rw [List.length_map] at hc
    refine hc.mono ?_
    rintro e w' ⟨rfl, q, rfl⟩
    have hcl := compact_len (xs.map bl)
    rw [List.length_map] at hcl
    have hbl : (compB xs).length = (Lib.compact (xs.map bl)).length := by simp [compB]
    rw [hbl]
    have e0 : ∀ d : Array (List UInt8), putRow encStr (Sort.ahead W q) g 0 d = Go.Sort.grow (putRow encStr (Sort.ahead W q) g 0 d) #[] := fun d => by unfold Go.Sort.grow; rw [Array.append_empty]
    rw [e0]
    refine ⟨rfl, ?_, hg.grown (grownBy_sorted _) (fun k hk => by cases hk; exact h1)⟩
    have := strs_mk (e := 9) (W0 := W0) (ys := compB xs) h1 (heap_sorted (n := q) (os := #[]) (Lib.compact (xs.map bl) ++ List.replicate (xs.length - (Lib.compact (xs.map bl)).length) []).toArray h2) (by omega) h4 (by simpa [putCells] using h5) (by
      have ht := take_putCells cur (Lib.compact (xs.map bl) ++ List.replicate (xs.length - (Lib.compact (xs.map bl)).length) []) (by rw [List.length_append, List.length_replicate]; omega)
      have ht2 := congrArg (List.take (compB xs).length) ht
      rw [List.take_take, hbl, Nat.min_eq_left (by rw [List.length_append]; omega)] at ht2
      rw [hbl, ht2, ← List.map_take, List.take_left']
      · unfold compB
        rw [List.map_map]
        rfl
      · rfl) (fun x hx => by
        unfold compB at hx
        obtain ⟨l, hl, rfl⟩ := List.mem_map.1 hx
        obtain ⟨y, hy, rfl⟩ := List.mem_map.1 (compact_mem hl)
        rw [ba_bl]
        exact hz y hy)
    rw [hbl] at this
    exact this
set_option maxRecDepth 100000 in
set_option maxHeartbeats 4000000 in
theorem namesOf_i {p : DProfile} {w : World} {A0 A1 : Option Addr} {c0 c1 : Nat} (hx : (tNode.sl 48).R w w.heap.size [.slice A0 p.Stacks.Nodes.length c0] p.Stacks.Nodes) (hy : (intT.sl 3).R w w.heap.size [.slice A1 p.Counts.length c1] p.Counts) (hn : p.Stacks.Nodes.length ≤ 1099511627776) :
    Calls Tryz.prog 9 #[.agg #[.slice A0 p.Stacks.Nodes.length c0, .slice A1 p.Counts.length c1]] w (RetSl strT 9 (namesOf p) w) := by
  cases hok : profileOk p
  · have HF := Lib.hid (show namesOf p = [] from by simp [namesOf, hok])
    have HO := Lib.hid hok
    clear hok
    go_enter Tryz.func9, Tryz.ntmps9
    go_wp2_with (go_at_call 14; go_must ((with_reducible refine (profileOk_i (p := p) (Ty.up _ hx (by repeat (first | with_reducible exact Gro.refl _ | with_reducible exact Gro.refl_drew _ _ _ | with_reducible exact Gro.refl_drewN _ _ _ _ | assumption | with_reducible apply Gro.more | with_reducible apply Gro.alloc | with_reducible apply Gro.drew | with_reducible apply Gro.drewN))) (Ty.up _ hy (by repeat (first | with_reducible exact Gro.refl _ | with_reducible exact Gro.refl_drew _ _ _ | with_reducible exact Gro.refl_drewN _ _ _ _ | assumption | with_reducible apply Gro.more | with_reducible apply Gro.alloc | with_reducible apply Gro.drew | with_reducible apply Gro.drewN)))).mono ?_); rw [HO.out]); rintro e w1 ⟨rfl, os1, d1, rfl⟩)
    go_ret
    rw [HF.out]
    exact ⟨none, 0, rfl, fresh_nil _ _, (by repeat (first | with_reducible exact Gro.refl _ | with_reducible exact Gro.refl_drew _ _ _ | with_reducible exact Gro.refl_drewN _ _ _ _ | assumption | with_reducible apply Gro.more | with_reducible apply Gro.alloc | with_reducible apply Gro.drew | with_reducible apply Gro.drewN))⟩
  · have HF := Lib.hid (show namesOf p = compB (sortB (nmTake p.Stacks.Nodes p.Stacks.Nodes.length)) from by rw [comp_sort]; simp [namesOf, hok, nmTake])
    have HO := Lib.hid hok
    clear hok
    go_enter Tryz.func9, Tryz.ntmps9
    go_wp2_with (go_at_call 14; go_must ((with_reducible refine (profileOk_i (p := p) (Ty.up _ hx (by repeat (first | with_reducible exact Gro.refl _ | with_reducible exact Gro.refl_drew _ _ _ | with_reducible exact Gro.refl_drewN _ _ _ _ | assumption | with_reducible apply Gro.more | with_reducible apply Gro.alloc | with_reducible apply Gro.drew | with_reducible apply Gro.drewN))) (Ty.up _ hy (by repeat (first | with_reducible exact Gro.refl _ | with_reducible exact Gro.refl_drew _ _ _ | with_reducible exact Gro.refl_drewN _ _ _ _ | assumption | with_reducible apply Gro.more | with_reducible apply Gro.alloc | with_reducible apply Gro.drew | with_reducible apply Gro.drewN)))).mono ?_); rw [HO.out]); rintro e w1 ⟨rfl, os1, d1, rfl⟩)
    go_loopw [3, 14] (fun a b wr => ∃ (j : Nat) (acc : List ByteArray) (A : Option Addr) (c : Nat), a = .slice A acc.length c ∧ b = .int .i64 j ∧ j ≤ p.Stacks.Nodes.length ∧ acc.length ≤ j ∧ Hid (acc = nmTake p.Stacks.Nodes j) ∧ Hid (Gro (w.alloc (.cells #[.slice A0 p.Stacks.Nodes.length c0, .slice A1 p.Counts.length c1] 29)) wr) ∧ Hid (Fresh (strT.sl 9) (w.alloc (.cells #[.slice A0 p.Stacks.Nodes.length c0, .slice A1 p.Counts.length c1] 29)) wr [.slice A acc.length c] acc)) (fun _ b _ => p.Stacks.Nodes.length - (intOf b).toNat)
    case atStart => exact ⟨0, [], _, 0, rfl, rfl, by omega, by simp, Lib.hid (by simp [nmTake]), Lib.hid (by repeat (first | with_reducible exact Gro.refl _ | with_reducible exact Gro.refl_drew _ _ _ | with_reducible exact Gro.refl_drewN _ _ _ _ | assumption | with_reducible apply Gro.more | with_reducible apply Gro.alloc | with_reducible apply Gro.drew | with_reducible apply Gro.drewN)), Lib.hid (fresh_empty2 (by repeat (first | with_reducible exact Gro.refl _ | with_reducible exact Gro.refl_drew _ _ _ | with_reducible exact Gro.refl_drewN _ _ _ _ | assumption | with_reducible apply Gro.more | with_reducible apply Gro.alloc | with_reducible apply Gro.drew | with_reducible apply Gro.drewN)) (by repeat (first | with_reducible exact Gro.refl _ | with_reducible exact Gro.refl_drew _ _ _ | with_reducible exact Gro.refl_drewN _ _ _ _ | assumption | with_reducible apply Gro.more | with_reducible apply Gro.alloc | with_reducible apply Gro.drew | with_reducible apply Gro.drewN)) (by simp))⟩
    case round =>
      obtain ⟨j, acc, A, c, rfl, rfl, hj, hacc, HT, hG, hF⟩ := hrel
      obtain ⟨os, d, rfl⟩ := hG.out
      clear hG
      by_cases hlt : j < p.Stacks.Nodes.length
      · obtain ⟨g, off, x, rfl, hgb, hxk, hx0, hx1, hx2, bx0, bx1, bx2⟩ := atNode hx hlt
        have HX := Lib.hid hxk
        have HXL := Lib.hid hx
        clear hxk hx
        go_wp2_with (at_builtin; go_must (refine wpList_append_fone (W0 := w.alloc (.cells #[.slice (some ⟨g, off, none⟩) p.Stacks.Nodes.length c0, .slice A1 p.Counts.length c1] 29)) (L := acc.length + 1) rfl (.tmp 18) (.tmp 22) el_str flat_str (hF.out.gro (by repeat (first | with_reducible exact Gro.refl _ | with_reducible exact Gro.refl_drew _ _ _ | with_reducible exact Gro.refl_drewN _ _ _ _ | assumption | with_reducible apply Gro.more | with_reducible apply Gro.alloc | with_reducible apply Gro.drew | with_reducible apply Gro.drewN))).fre (by repeat (first | with_reducible exact Gro.refl _ | with_reducible exact Gro.refl_drew _ _ _ | with_reducible exact Gro.refl_drewN _ _ _ _ | assumption | with_reducible apply Gro.more | with_reducible apply Gro.alloc | with_reducible apply Gro.drew | with_reducible apply Gro.drewN)) (W1 := w) (B := 0) (ec := [.string x.Frame.Name]) (y := x.Frame.Name) ⟨rfl, bx1⟩ rfl rfl rfl (by intro j u hu; simpa [go_sem] using hu) rfl (by omega) (by omega) ?_); intro D2 e2 os2 d2 hF2)
        go_roundw
        case rel => exact ⟨j + 1, acc ++ [x.Frame.Name], D2, e2, by simp, by go_num, by omega, by simp; omega, Lib.hid (by rw [nmTake_snoc HX.out, HT.out]), Lib.hid (by repeat (first | with_reducible exact Gro.refl _ | with_reducible exact Gro.refl_drew _ _ _ | with_reducible exact Gro.refl_drewN _ _ _ _ | assumption | with_reducible apply Gro.more | with_reducible apply Gro.alloc | with_reducible apply Gro.drew | with_reducible apply Gro.drewN)), Lib.hid (by simpa using hF2)⟩
        case measure => simp [intOf]; omega
      · have hje : j = p.Stacks.Nodes.length := by omega
        subst hje
        have HQ := Lib.hid (show namesOf p = compB (sortB acc) from by rw [HF.out, HT.out])
        have hcl : (compB (sortB acc)).length ≤ acc.length := by
          unfold compB
          rw [List.length_map]
          refine Nat.le_trans (compact_len _) ?_
          rw [List.length_map, sortB_len]
          omega
        go_wp2_with (fail)
        refine (sort_own hF.out (by first | exact (by repeat (first | with_reducible exact Gro.refl _ | with_reducible exact Gro.refl_drew _ _ _ | with_reducible exact Gro.refl_drewN _ _ _ _ | assumption | with_reducible apply Gro.more | with_reducible apply Gro.alloc | with_reducible apply Gro.drew | with_reducible apply Gro.drewN))) (by omega)).mono ?_
        rintro e w2 ⟨rfl, hF2, hG2⟩
        obtain ⟨os2, d2, rfl⟩ := hG2
        go_wp2_with (fail)
        rw [← sortB_len acc] at hF2 ⊢
        refine (compact_own hF2 (by repeat (first | with_reducible exact Gro.refl _ | with_reducible exact Gro.refl_drew _ _ _ | with_reducible exact Gro.refl_drewN _ _ _ _ | assumption | with_reducible apply Gro.more | with_reducible apply Gro.alloc | with_reducible apply Gro.drew | with_reducible apply Gro.drewN)) (by rw [sortB_len]; omega)).mono ?_
        rintro e w3 ⟨rfl, hF3, hG3⟩
        obtain ⟨os3, d3, rfl⟩ := hG3
        go_wp2_with (fail)
        go_ret
        rw [HQ.out]
        exact ⟨A, c, rfl, hF3.since (by simp), (by repeat (first | with_reducible exact Gro.refl _ | with_reducible exact Gro.refl_drew _ _ _ | with_reducible exact Gro.refl_drewN _ _ _ _ | assumption | with_reducible apply Gro.more | with_reducible apply Gro.alloc | with_reducible apply Gro.drew | with_reducible apply Gro.drewN))⟩
theorem namesOf_len (p : DProfile) : (namesOf p).length ≤ p.Stacks.Nodes.length := by
  unfold namesOf
  split
  · rw [← comp_sort]
    unfold compB
    rw [List.length_map]
    refine Nat.le_trans (compact_len _) ?_
    rw [List.length_map, sortB_len, List.length_map]
    omega
  · simp
end Go.Proofs.YtcomafmiclkmhaaGreatDoor
