/-
  SCALE: what ScaleProfile comes to, in plain terms; a count stored into an own list of entries.
-/
import Derived.Test.YtdlkoffandhclaaGreatDoorTidy
import Derived.Test.YtdlkoffandhclaaGreatDoorRowsPut
set_option linter.unusedVariables false
set_option linter.unusedSimpArgs false
namespace Go.Proofs.YtdlkoffandhclaaGreatDoor
open Go.RowKit
def sclE (n : Int) (e : DEntry) : DEntry := ⟨e.Stack, e.Count * n⟩
def scaleP (p : DProfile) (n : Int) : DProfile × Bool := if profileOk p && (btw n 1 1000000000000 && decide (totalOf p ≤ Int.tdiv 1000000000000 n)) then profR ((entriesOf p).map (sclE n)) else (emptyP, false)
theorem sum_elem {L : Int} {cs : List Int} (h : countsOk L cs = true) {j : Nat} {c : Int} (hc : cs[j]? = some c) (hL : 0 ≤ L) : 0 ≤ c ∧ c ≤ cs.sum := by
  induction cs generalizing L j with
  | nil => simp at hc
  | cons a cs ih =>
    simp only [countsOk, Bool.and_eq_true, btw_iff] at h
    have h0 := countsOk_take h.2 (by omega) cs.length
    rw [List.take_length] at h0
    cases j with
    | zero =>
      simp only [List.getElem?_cons_zero, Option.some.injEq] at hc
      subst hc
      simp only [List.sum_cons]
      omega
    | succ j =>
      simp only [List.getElem?_cons_succ] at hc
      have := ih h.2 hc (by omega)
      simp only [List.sum_cons]
      omega
theorem entTake_mem2 {p : DProfile} {n : Nat} {e : DEntry} (h : e ∈ entTake p n) : ∃ k : Nat, p.Counts[k]? = some e.Count := by
  unfold entTake at h
  obtain ⟨k, _, hk⟩ := List.mem_filterMap.1 h
  unfold entAt at hk
  split at hk
  · rename_i c hc
    split at hk
    · cases hk
    · simp only [Option.some.injEq] at hk
      subst hk
      exact ⟨k, hc⟩
  · cases hk
theorem ents_count {p : DProfile} {e : DEntry} (hp : profileOk p = true) (h : e ∈ entriesOf p) : 0 ≤ e.Count ∧ e.Count ≤ totalOf p := by
  unfold entriesOf at h
  rw [if_pos hp] at h
  have h1 := (foldl_insE_perm (entTake p p.Counts.length) []).mem_iff.1 h
  obtain ⟨k, hk⟩ := entTake_mem2 (by simpa using h1)
  have h2 := hp
  simp only [profileOk, Bool.and_eq_true] at h2
  have := sum_elem h2.2.2 hk (by omega)
  unfold totalOf
  rw [if_pos hp]
  exact this
theorem scale_fit {p : DProfile} {n : Int} {e : DEntry} (hp : profileOk p = true) (hn : btw n 1 1000000000000 = true) (ht : decide (totalOf p ≤ Int.tdiv 1000000000000 n) = true) (h : e ∈ entriesOf p) : 0 ≤ e.Count * n ∧ e.Count * n ≤ 1000000000000 := by
  have h1 := ents_count hp h
  have h2 := btw_iff.1 hn
  have h3 := of_decide_eq_true ht
  rw [Int.tdiv_eq_ediv_of_nonneg (by omega)] at h3
  refine ⟨Int.mul_nonneg h1.1 (by omega), ?_⟩
  have h4 : e.Count ≤ 1000000000000 / n := by omega
  exact (Int.le_ediv_iff_mul_le (by omega)).1 h4
theorem frSum_scl (n : Int) (l : List DEntry) : frSum (l.map (sclE n)) = frSum l := by
  unfold frSum
  rw [List.map_map]
  rfl
theorem scaleP_len {p : DProfile} (n : Int) (h : szProfile p ≤ 1048576) : (scaleP p n).1.Stacks.Nodes.length ≤ 122500000000 ∧ (scaleP p n).1.Counts.length ≤ 122500000000 := by
  have h1 := frSum_small h
  unfold scaleP
  split
  · have := profR_len ((entriesOf p).map (sclE n))
    rw [frSum_scl] at this
    omega
  · exact ⟨Nat.zero_le _, Nat.zero_le _⟩
theorem scl_sz {p : DProfile} {n : Int} {j : Nat} {e : DEntry} (h : ((entriesOf p).map (sclE n))[j]? = some e) : e.Stack.size ≤ 12 * p.Stacks.Nodes.length := by
  rw [List.getElem?_map] at h
  cases hx : (entriesOf p)[j]? with
  | none => rw [hx] at h; cases h
  | some x =>
    rw [hx] at h
    simp only [Option.map_some, Option.some.injEq] at h
    subst h
    have := ents_sz hx
    exact this
def partS (n : Int) (l : List DEntry) (j : Nat) : List DEntry := (l.take j).map (sclE n) ++ l.drop j
theorem partS_zero (n : Int) (l : List DEntry) : partS n l 0 = l := by simp [partS]
theorem partS_all (n : Int) (l : List DEntry) : partS n l l.length = l.map (sclE n) := by simp [partS]
theorem partS_len (n : Int) (l : List DEntry) (j : Nat) : (partS n l j).length = l.length := by
  simp only [partS, List.length_append, List.length_map, List.length_take, List.length_drop]
  omega
theorem partS_get {n : Int} {l : List DEntry} {j : Nat} {e : DEntry} (h : l[j]? = some e) : (partS n l j)[j]? = some e := by
  have hj : j < l.length := (List.getElem?_eq_some_iff.1 h).1
  have hl : ((l.take j).map (sclE n)).length = j := by simp; omega
  unfold partS
  rw [List.getElem?_append_right (by omega), hl, Nat.sub_self, List.getElem?_drop, Nat.add_zero]
  exact h
theorem partS_set {n : Int} {l : List DEntry} {j : Nat} {e : DEntry} (h : l[j]? = some e) : (partS n l j).set j (sclE n e) = partS n l (j + 1) := by
  have hj : j < l.length := (List.getElem?_eq_some_iff.1 h).1
  have hl : ((l.take j).map (sclE n)).length = j := by simp; omega
  unfold partS
  rw [List.set_append_right _ _ (by omega), hl, Nat.sub_self, drop_at h, List.set_cons_zero, List.take_add_one, h]
  simp
theorem setCell_self {W : World} {a : Addr} {v : Value} (h : W.cell? a = some v) : W.setCell a v = W := by
  unfold World.cell? at h
  unfold World.setCell
  split at h
  · rename_i c e f hc
    split at h
    · cases h
    · rename_i hs
      have : W.heap.modify a.block (fun
        | .cells c elem frozen => .cells (if a.spot.isSome then c else c.setIfInBounds a.off v) elem frozen
        | o => o) = W.heap := by
        apply Array.ext_getElem?
        intro i
        rw [Array.getElem?_modify]
        split
        · rename_i hi
          subst hi
          rw [hc]
          simp only [Option.map_some, hs, if_neg, Bool.false_eq_true, not_false_eq_true]
          congr 2
          apply Array.ext_getElem?
          intro k
          rw [Array.getElem?_setIfInBounds]
          split
          · rename_i hk
            subst hk
            split
            · exact h.symm
            · rename_i hk2
              rw [Array.getElem?_eq_none (by omega)]
          · rfl
        · rfl
      exact congrArg (fun h => ({ W with heap := h } : World)) this
  · cases h
theorem set_ent {e : TypeId} {X W : World} {A : Option Addr} {n c : Nat} {l : List DEntry} {k : Nat} {x : DEntry} {y : Int} (h : Fresh (tEntry.sl e) X W [.slice A n c] l) (hg : Gro X W) (hx : l[k]? = some x) (hy : I64 y) :
    ∃ g, A = some ⟨g, 0, none⟩ ∧ g < W.heap.size ∧ W.frozen? ⟨g, k * 2 + 1, none⟩ = false ∧ W.cell? ⟨g, k * 2, none⟩ = some (.string x.Stack) ∧ W.cell? ⟨g, k * 2 + 1, none⟩ = some (.int .i64 x.Count) ∧
      Gro X (W.setCell ⟨g, k * 2 + 1, none⟩ (.int .i64 y)) ∧ Fresh (tEntry.sl e) X (W.setCell ⟨g, k * 2 + 1, none⟩ (.int .i64 y)) [.slice A n c] (l.set k ⟨x.Stack, y⟩) := by
  obtain ⟨S, hO, hN, hS⟩ := h
  obtain ⟨g, ec, Sc, rfl, hgS, hgl, hgc, hSc, hO1, hfz, hcell, hset⟩ := own_put hO hN hx
  obtain ⟨rfl, rfl, b1, b2⟩ := tEntry_O hO1
  have hc0 := hcell 0 _ rfl
  have hc1 := hcell 1 _ rfl
  have hs2 : tEntry.size = 2 := rfl
  simp only [hs2, Nat.add_zero] at hc0 hc1
  have h1 := hset [.string x.Stack, .int .i64 y] ⟨x.Stack, y⟩ (tEntry_mkO (x := ⟨x.Stack, y⟩) b1 hy)
  simp only [hs2, setRow, Nat.add_zero, Nat.zero_add, setCell_self hc0] at h1
  refine ⟨g, rfl, hgl, hfz _, hc0, hc1, hg.setRow (p := ⟨g, k * 2 + 1, none⟩) (hS g hgS) _, S, h1.1, hN, hS⟩
end Go.Proofs.YtdlkoffandhclaaGreatDoor
