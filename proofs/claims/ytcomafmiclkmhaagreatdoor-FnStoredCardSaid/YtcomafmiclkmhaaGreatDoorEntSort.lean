/-
  ENTRIES, PART 2: the library's sort by a function at a list of entries of the call's own.
-/
import Derived.Test.YtcomafmiclkmhaaGreatDoorEntLaw
import Derived.Test.YtcomafmiclkmhaaGreatDoorLsEntry
import Derived.Test.YtcomafmiclkmhaaGreatDoorShelf
import Derived.Test.YtcomafmiclkmhaaGreatDoorShelfSort
import Derived.Sort.OwnSorted
set_option linter.unusedVariables false
set_option linter.unusedSimpArgs false
namespace Go.Proofs.YtcomafmiclkmhaaGreatDoor
open Go.RowKit Go.Sort
theorem cmp_lt : ∀ (x y : List UInt8), Lib.compareBytes x y < 0 ↔ x < y
  | [], [] => by simp [Lib.compareBytes]
  | [], _ :: _ => by simp [Lib.compareBytes]
  | _ :: _, [] => by simp [Lib.compareBytes]
  | a :: x, b :: y => by
    rw [List.cons_lt_cons_iff, ← cmp_lt x y, show Lib.compareBytes (a :: x) (b :: y) = if a < b then -1 else if b < a then 1 else Lib.compareBytes x y from by rw [Lib.compareBytes]]
    by_cases h1 : a < b
    · simp [h1]
    · by_cases h2 : b < a
      · have : a ≠ b := fun e => by subst e; exact h1 h2
        simp [h1, h2, this]
      · have : a = b := UInt8.le_antisymm (UInt8.not_lt.1 h2) (UInt8.not_lt.1 h1)
        simp [this]
instance : Inhabited DEntry := ⟨⟨⟨#[]⟩, 0⟩⟩
def cfE (x y : DEntry) : Int := Lib.compareBytes (bl x.Stack) (bl y.Stack)
theorem ltE_of (x y : DEntry) : ltOf cfE x y = decide (bl x.Stack < bl y.Stack) := by
  unfold ltOf cfE
  rw [Bool.eq_iff_iff, decide_eq_true_eq, decide_eq_true_eq, cmp_lt]
theorem swoE : SWO (ltOf cfE) where
  irrefl x := by rw [ltE_of, decide_eq_false_iff_not]; exact bl_irrefl _
  trans x y z h1 h2 := by
    rw [ltE_of, decide_eq_true_eq] at *
    exact bl_trans h1 h2
  ntrans x y z h1 h2 := by
    rw [ltE_of, decide_eq_false_iff_not] at *
    intro h3
    have a := bl_le_of_not h1
    have b := bl_le_of_not h2
    exact absurd h3 (List.not_lt.2 (List.le_trans b a))
def encE (x : DEntry) : List Value := [.string x.Stack, .int .i64 x.Count]
theorem flat_get : ∀ (l : List DEntry) (t : Nat) (x : DEntry), l[t / 2]? = some x → (l.flatMap encE)[t]? = (encE x)[t % 2]?
  | [], t, x, h => by simp at h
  | a :: l, 0, x, h => by simp at h; subst h; simp [encE]
  | a :: l, 1, x, h => by simp at h; subst h; simp [encE]
  | a :: l, t + 2, x, h => by
    have e : (t + 2) / 2 = t / 2 + 1 := by omega
    have e2 : (t + 2) % 2 = t % 2 := by omega
    rw [e, List.getElem?_cons_succ] at h
    rw [e2, ← flat_get l t x h, List.flatMap_cons]
    simp [encE]
theorem flat_len : ∀ (l : List DEntry), (l.flatMap encE).length = l.length * 2
  | [] => rfl
  | a :: l => by rw [List.flatMap_cons, List.length_append, flat_len l]; simp [encE]; omega
theorem flatK_eq (d : Array DEntry) : flatK encE 2 d = (d.toList.flatMap encE).toArray := by
  refine ext_get! (by rw [size_flatK]; show _ = (d.toList.flatMap encE).length; rw [flat_len, Array.length_toList]) fun t ht => ?_
  rw [size_flatK] at ht
  rw [get_flatK _ _ _ _ ht]
  have h2 : t / 2 < d.size := by omega
  have hx : d.toList[t / 2]? = some d[t / 2]! := by rw [Array.getElem?_toList, getElem!_pos d _ h2]; simp [h2]
  have := flat_get d.toList t _ hx
  have hh : ∀ (l : List Value), l.toArray[t]! = (l[t]?).getD default := fun l => by rw [List.getElem!_toArray, List.getElem!_eq_getElem?_getD]
  rw [hh, this, List.getElem!_eq_getElem?_getD]
theorem rows_ents {w : World} : ∀ {xs : List DEntry} {cs : List Value} {S : List Nat}, Rows tEntry w cs xs S → cs = xs.flatMap encE ∧ S = [] ∧ ∀ x ∈ xs, x.Stack.size ≤ 9223372036854775807 ∧ I64 x.Count
  | [], _, _, h => ⟨h.1, h.2, fun x hx => by cases hx⟩
  | x :: xs, _, _, ⟨c1, c2, S1, S2, h1, h2, h3, h4⟩ => by
    obtain ⟨rfl, rfl, hs, hc⟩ := tEntry_O h3
    obtain ⟨rfl, rfl, h5⟩ := rows_ents h4
    refine ⟨h1, h2, fun y hy => ?_⟩
    rcases List.mem_cons.1 hy with rfl | hy
    · exact ⟨hs, hc⟩
    · exact h5 y hy
theorem ents_rows {w : World} : ∀ {xs : List DEntry}, (∀ x ∈ xs, x.Stack.size ≤ 9223372036854775807 ∧ I64 x.Count) → Rows tEntry w (xs.flatMap encE) xs []
  | [], _ => ⟨rfl, rfl⟩
  | x :: xs, h => ⟨encE x, xs.flatMap encE, [], [], by rw [List.flatMap_cons], rfl, tEntry_mkOd (h x List.mem_cons_self).1 (h x List.mem_cons_self).2, ents_rows (fun y hy => h y (List.mem_cons_of_mem _ hy))⟩
theorem ents_own {e : TypeId} {W0 W : World} {A : Option Addr} {c : Nat} {xs : List DEntry} (h : Fresh (tEntry.sl e) W0 W [.slice A xs.length c] xs) :
    (∀ x ∈ xs, x.Stack.size ≤ 9223372036854775807 ∧ I64 x.Count) ∧ ((A = none ∧ xs = [] ∧ c = 0) ∨ ∃ g cur, A = some ⟨g, 0, none⟩ ∧ W0.heap.size ≤ g ∧ W.heap[g]? = some (.cells cur e (0, 0)) ∧ xs.length ≤ c ∧ c ≤ maxLen ∧ cur.size = c * 2 ∧ cur.toList.take (xs.length * 2) = xs.flatMap encE) := by
  obtain ⟨S, ⟨A', c', ecs, S', h1, ⟨h2, h3⟩, h4, rfl⟩, h5, h6⟩ := h
  simp only [List.cons.injEq, Value.slice.injEq, and_true, true_and] at h1
  obtain ⟨rfl, rfl⟩ := h1
  obtain ⟨rfl, rfl, hsz⟩ := rows_ents h4
  refine ⟨hsz, ?_⟩
  rcases h3 with ⟨h7, h8⟩ | ⟨g, cap, cur, h7, h8, h9, h10, h11, h12, h13⟩
  · simp only [Value.slice.injEq] at h7
    exact .inl ⟨h7.1, List.eq_nil_of_length_eq_zero h8, h7.2.2⟩
  · simp only [Value.slice.injEq, true_and] at h7
    obtain ⟨rfl, rfl⟩ := h7
    exact .inr ⟨g, cur, rfl, h6 g (by simp [blockOf]), h9, h10, h11, h12, h13⟩
theorem ents_mk {e : TypeId} {W0 W : World} {g c : Nat} {cur : Array Value} {ys : List DEntry} (hg : W0.heap.size ≤ g) (hb : W.heap[g]? = some (.cells cur e (0, 0))) (hc : ys.length ≤ c) (hm : c ≤ maxLen) (hs : cur.size = c * 2) (ht : cur.toList.take (ys.length * 2) = ys.flatMap encE) (hz : ∀ x ∈ ys, x.Stack.size ≤ 9223372036854775807 ∧ I64 x.Count) :
    Fresh (tEntry.sl e) W0 W [.slice (some ⟨g, 0, none⟩) ys.length c] ys :=
  ⟨[g], ⟨_, c, ys.flatMap encE, [], rfl, ⟨by rw [flat_len]; rfl, .inr ⟨g, c, cur, rfl, Nat.zero_le _, hb, hc, hm, hs, ht⟩⟩, ents_rows hz, rfl⟩, by simp, fun b hb => by simp at hb; omega⟩
theorem holds_of_blockV {w : World} {g : Nat} {cur : Array Value} {e : TypeId} {ss : List Value} (hb : w.heap[g]? = some (.cells cur e (0, 0))) (ht : cur.toList.take ss.length = ss) : Holds id w g 0 ss.toArray := by
  intro j hj
  have hj' : j < ss.length := by simpa using hj
  refine ⟨?_, by simp [World.frozen?, hb]⟩
  have h1 : (cur.toList.take ss.length)[j]? = ss[j]? := by rw [ht]
  rw [List.getElem?_take_of_lt hj'] at h1
  simp only [World.cell?, hb, Nat.zero_add]
  simp only [Option.isSome_none, Bool.false_eq_true, if_false]
  rw [← Array.getElem?_toList, h1]
  simp [hj']
theorem heap_sortedV {w : World} {g n : Nat} {os : Array Obj} {cur : Array Value} {e : TypeId} {fr : Nat × Nat} (d : Array Value) (hb : w.heap[g]? = some (.cells cur e fr)) :
    (Go.Sort.grow (putRow id (Sort.ahead w n) g 0 d) os).heap[g]? = some (.cells (putCells id 0 d cur) e fr) := by
  have hg : g < w.heap.size := (Array.getElem?_eq_some_iff.1 hb).1
  rw [heap_grow_old _ _ (by simpa using hg)]
  simp [putRow, mapBlock, Sort.ahead, Array.getElem?_modify, hb, onCells]
theorem grownBy_sortedV {w : World} {g n : Nat} {os : Array Obj} (d : Array Value) : w.grownBy (Go.Sort.grow (putRow id (Sort.ahead w n) g 0 d) os) (some g) := by
  refine ⟨rfl, rfl, rfl, by simp, fun k hk hne => ?_⟩
  rw [heap_grow_old _ _ (by simpa using hk)]
  have : g ≠ k := fun e => hne (by rw [e])
  simp [putRow, mapBlock, Sort.ahead, Array.getElem?_modify, this]
theorem take_putCellsV (cur : Array Value) (ts : List Value) (h : ts.length ≤ cur.size) : (putCells id 0 ts.toArray cur).toList.take ts.length = ts := by
  apply List.ext_getElem?
  intro j
  by_cases hj : j < ts.length
  · rw [List.getElem?_take_of_lt hj, Array.getElem?_toList]
    have hjc : j < cur.size := by omega
    simp [putCells, hj, hjc]
  · rw [List.getElem?_take_eq_none (by omega), List.getElem?_eq_none (by omega)]
theorem alloc_grow (w : World) (b : Obj) : w.alloc b = Go.Sort.grow w #[b] := rfl
theorem grow_two (w : World) (a b : Array Obj) : Go.Sort.grow (Go.Sort.grow w a) b = Go.Sort.grow w (a ++ b) := by simp [Go.Sort.grow, Array.append_assoc]
set_option maxHeartbeats 1000000 in
/-- the closure that EntriesOf hands to the sort -/
theorem cmp_ent (x y : DEntry) (W : World) : Calls Tryz.prog 42 #[.agg #[.string x.Stack, .int .i64 x.Count], .agg #[.string y.Stack, .int .i64 y.Count]] W fun e w' => e = .returned (.int .i64 (cfE x y)) ∧ ∃ q os', w' = Go.Sort.grow (W.drewN q) os' := by
  have hcon := fun W' => Tryz.strings_Compare x.Stack y.Stack W'
  simp only [show Lib.compareBytes x.Stack.data.toList y.Stack.data.toList = cfE x y from rfl] at hcon
  generalize cfE x y = r at hcon ⊢
  go_enter Tryz.func42, Tryz.ntmps42
  go_wp2_with (go_at_call 43; refine (hcon _).mono ?_; rintro e w' ⟨rfl, rfl⟩)
  go_ret
  exact ⟨rfl, 0, _, by rw [alloc_grow, alloc_grow, grow_two]; rfl⟩
theorem sort_ents {W0 W : World} {A : Option Addr} {c : Nat} {xs : List DEntry} (h : Fresh (tEntry.sl 62) W0 W [.slice A xs.length c] xs) (hA : A ≠ none) (hg : Gro W0 W) (hl : xs.length ≤ 1099511627776) :
    Calls Tryz.prog 41 #[.slice A xs.length c, .func (.func 42) #[] #[]] W fun e W' => e = .returned (.tuple #[]) ∧ ∃ ys, ys.Perm xs ∧ ys.Pairwise leE ∧ Fresh (tEntry.sl 62) W0 W' [.slice A ys.length c] ys ∧ Gro W0 W' := by
  obtain ⟨hz, ⟨rfl, rfl, rfl⟩ | ⟨g, cur, rfl, h1, h2, h3, h4, h5, h6⟩⟩ := ents_own h
  · exact absurd rfl hA
  · have hblk : g < W.heap.size := (Array.getElem?_eq_some_iff.1 h2).1
    have hH : HoldsK encE 2 W g 0 xs.toArray := by
      unfold HoldsK
      rw [flatK_eq]
      exact holds_of_blockV h2 (by rw [flat_len]; exact h6)
    have eg : ∀ args w, (callFunc 42 args).run Tryz.prog w = .ok (.enter 42 args) w := enters_of Tryz.func42 (by kernel_rfl) rfl
    have hcon := AnyQ.slices_SortFunc Tryz.laysSortFunc 2 Tryz.isAgg62 Tryz.sizeOf62 encE (fun _ => rfl) (fun x v hv => by simp [encE] at hv; rcases hv with rfl | rfl <;> rfl) cfE swoE 42 #[] g 0 c xs.toArray W eg (fun _ _ _ _ x y => cmp_ent x y _) hH hblk (by simp; omega)
    refine Calls.mono hcon ?_
    rintro e w' ⟨rfl, d', n, os, hp, hs, rfl⟩
    have hsz : d'.toList.length = xs.length := by have := hp.1; simpa using this
    have hperm : d'.toList.Perm xs := by
      have := hp.2.2
      have e1 : (d'.extract 0 xs.toArray.size) = d' := by rw [← hp.1]; exact Array.extract_size
      rw [e1, Array.extract_size] at this
      simpa using this
    have e1 : sortWorldK encE 2 W g 0 n d' os = Go.Sort.grow (putRow id (Sort.ahead W n) g 0 (d'.toList.flatMap encE).toArray) os := by
      unfold sortWorldK putRowK
      rw [flatK_eq]
    rw [e1]
    refine ⟨rfl, d'.toList, hperm, ?_, ?_, hg.grown (grownBy_sortedV _) (fun k hk => by cases hk; exact h1)⟩
    · rw [List.pairwise_iff_getElem]
      intro i j hi hj hij
      have := hs i j (Nat.zero_le _) hij (by have := hp.1; simp at this hj ⊢; omega)
      rw [ltE_of, decide_eq_false_iff_not, getElem!_pos d' i (by simpa using hi), getElem!_pos d' j (by simpa using hj)] at this
      exact this
    · refine ents_mk (e := 62) h1 (heap_sortedV _ h2) (by omega) h4 (by simpa [putCells] using h5) ?_ (fun x hx => hz x (hperm.mem_iff.1 hx))
      rw [← flat_len]
      exact take_putCellsV cur (d'.toList.flatMap encE) (by rw [flat_len]; omega)
end Go.Proofs.YtcomafmiclkmhaaGreatDoor
