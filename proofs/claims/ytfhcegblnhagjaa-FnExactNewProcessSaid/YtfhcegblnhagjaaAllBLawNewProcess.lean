import Derived.Test.YtfhcegblnhagjaaBoxes
import Derived.Test.YtfhcegblnhagjaaOwn
import Derived.Test.YtfhcegblnhagjaaProfile
import Derived.Test.YtfhcegblnhagjaaStacks3
import Derived.Test.YtfhcegblnhagjaaBox3
import Derived.Deep.RegionLaw
import Derived.Deep.LoopGhost
import Derived.Test.YtfhcegblnhagjaaVarint2
import Derived.Test.YtfhcegblnhagjaaSample
import Derived.Test.YtfhcegblnhagjaaBytes2
import Derived.Test.YtfhcegblnhagjaaLists
import Derived.Test.YtfhcegblnhagjaaFnSample
import Derived.Deep.RegionHeld3
import Derived.Test.YtfhcegblnhagjaaAppend
import Derived.Test.YtfhcegblnhagjaaBox2
import Derived.Deep.AppendSrc
import Derived.Test.YtfhcegblnhagjaaProcOk
set_option linter.unusedVariables false
set_option linter.unusedSimpArgs false
namespace Go.Proofs.Ytfhcegblnhagjaa
open Go.RowKit
theorem set_at {W : World} {g i : Nat} {cur cur' : Array Value} {e : TypeId} {v : Value} (h : W.heap[g]? = some (.cells cur e (0, 0))) (hc : cur.setIfInBounds i v = cur') : (W.setCell ⟨g, i, none⟩ v).heap[g]? = some (.cells cur' e (0, 0)) := by
  rw [heap_setCell_at h i v, hc]
theorem set3 {W : World} {g : Nat} {o0 o1 o2 : Value} {e : TypeId} (h : W.heap[g]? = some (.cells #[o0, o1, o2] e (0, 0))) (v0 v1 v2 : Value) :
    (((W.setCell ⟨g, 0, none⟩ v0).setCell ⟨g, 1, none⟩ v1).setCell ⟨g, 2, none⟩ v2).heap[g]? = some (.cells #[v0, v1, v2] e (0, 0)) ∧ OnlyS [g] W (((W.setCell ⟨g, 0, none⟩ v0).setCell ⟨g, 1, none⟩ v1).setCell ⟨g, 2, none⟩ v2) :=
  ⟨(set_at (i := 2) (v := v2) (cur' := #[v0, v1, v2]) (set_at (i := 1) (v := v1) (cur' := #[v0, v1, o2]) (set_at (i := 0) (v := v0) (cur' := #[v0, o1, o2]) h rfl) rfl) rfl), ((((OnlyS.refl _ _).setCell (p := ⟨g, 0, none⟩) (by simp) v0).setCell (p := ⟨g, 1, none⟩) (by simp) v1).setCell (p := ⟨g, 2, none⟩) (by simp) v2)⟩
theorem row3 {W : World} {g : Nat} {o0 o1 o2 : Value} {e : TypeId} (h : W.heap[g]? = some (.cells #[o0, o1, o2] e (0, 0))) :
    W.cell? ⟨g, 0, none⟩ = some o0 ∧ W.cell? ⟨g, 1, none⟩ = some o1 ∧ W.cell? ⟨g, 2, none⟩ = some o2 ∧ (∀ j, W.frozen? ⟨g, j, none⟩ = false) ∧ g < W.heap.size := by
  refine ⟨?_, ?_, ?_, fun j => by simp [World.frozen?, h], (Array.getElem?_eq_some_iff.1 h).1⟩
  all_goals
    rw [cell_of_row W g _ _ _ (0, 0) h]
    rfl
theorem set5 {W : World} {g : Nat} {o0 o1 o2 o3 o4 : Value} {e : TypeId} (h : W.heap[g]? = some (.cells #[o0, o1, o2, o3, o4] e (0, 0))) (v0 v1 v2 v3 v4 : Value) :
    (((((W.setCell ⟨g, 0, none⟩ v0).setCell ⟨g, 1, none⟩ v1).setCell ⟨g, 2, none⟩ v2).setCell ⟨g, 3, none⟩ v3).setCell ⟨g, 4, none⟩ v4).heap[g]? = some (.cells #[v0, v1, v2, v3, v4] e (0, 0)) ∧ OnlyS [g] W (((((W.setCell ⟨g, 0, none⟩ v0).setCell ⟨g, 1, none⟩ v1).setCell ⟨g, 2, none⟩ v2).setCell ⟨g, 3, none⟩ v3).setCell ⟨g, 4, none⟩ v4) :=
  ⟨(set_at (i := 4) (v := v4) (cur' := #[v0, v1, v2, v3, v4]) (set_at (i := 3) (v := v3) (cur' := #[v0, v1, v2, v3, o4]) (set_at (i := 2) (v := v2) (cur' := #[v0, v1, v2, o3, o4]) (set_at (i := 1) (v := v1) (cur' := #[v0, v1, o2, o3, o4]) (set_at (i := 0) (v := v0) (cur' := #[v0, o1, o2, o3, o4]) h rfl) rfl) rfl) rfl) rfl), ((((((OnlyS.refl _ _).setCell (p := ⟨g, 0, none⟩) (by simp) v0).setCell (p := ⟨g, 1, none⟩) (by simp) v1).setCell (p := ⟨g, 2, none⟩) (by simp) v2).setCell (p := ⟨g, 3, none⟩) (by simp) v3).setCell (p := ⟨g, 4, none⟩) (by simp) v4)⟩
theorem row5 {W : World} {g : Nat} {o0 o1 o2 o3 o4 : Value} {e : TypeId} (h : W.heap[g]? = some (.cells #[o0, o1, o2, o3, o4] e (0, 0))) :
    W.cell? ⟨g, 0, none⟩ = some o0 ∧ W.cell? ⟨g, 1, none⟩ = some o1 ∧ W.cell? ⟨g, 2, none⟩ = some o2 ∧ W.cell? ⟨g, 3, none⟩ = some o3 ∧ W.cell? ⟨g, 4, none⟩ = some o4 ∧ (∀ j, W.frozen? ⟨g, j, none⟩ = false) ∧ g < W.heap.size := by
  refine ⟨?_, ?_, ?_, ?_, ?_, fun j => by simp [World.frozen?, h], (Array.getElem?_eq_some_iff.1 h).1⟩
  all_goals
    rw [cell_of_row W g _ _ _ (0, 0) h]
    rfl
theorem set7 {W : World} {g : Nat} {o0 o1 o2 o3 o4 o5 o6 : Value} {e : TypeId} (h : W.heap[g]? = some (.cells #[o0, o1, o2, o3, o4, o5, o6] e (0, 0))) (v0 v1 v2 v3 v4 v5 v6 : Value) :
    (((((((W.setCell ⟨g, 0, none⟩ v0).setCell ⟨g, 1, none⟩ v1).setCell ⟨g, 2, none⟩ v2).setCell ⟨g, 3, none⟩ v3).setCell ⟨g, 4, none⟩ v4).setCell ⟨g, 5, none⟩ v5).setCell ⟨g, 6, none⟩ v6).heap[g]? = some (.cells #[v0, v1, v2, v3, v4, v5, v6] e (0, 0)) ∧ OnlyS [g] W (((((((W.setCell ⟨g, 0, none⟩ v0).setCell ⟨g, 1, none⟩ v1).setCell ⟨g, 2, none⟩ v2).setCell ⟨g, 3, none⟩ v3).setCell ⟨g, 4, none⟩ v4).setCell ⟨g, 5, none⟩ v5).setCell ⟨g, 6, none⟩ v6) :=
  ⟨(set_at (i := 6) (v := v6) (cur' := #[v0, v1, v2, v3, v4, v5, v6]) (set_at (i := 5) (v := v5) (cur' := #[v0, v1, v2, v3, v4, v5, o6]) (set_at (i := 4) (v := v4) (cur' := #[v0, v1, v2, v3, v4, o5, o6]) (set_at (i := 3) (v := v3) (cur' := #[v0, v1, v2, v3, o4, o5, o6]) (set_at (i := 2) (v := v2) (cur' := #[v0, v1, v2, o3, o4, o5, o6]) (set_at (i := 1) (v := v1) (cur' := #[v0, v1, o2, o3, o4, o5, o6]) (set_at (i := 0) (v := v0) (cur' := #[v0, o1, o2, o3, o4, o5, o6]) h rfl) rfl) rfl) rfl) rfl) rfl) rfl), ((((((((OnlyS.refl _ _).setCell (p := ⟨g, 0, none⟩) (by simp) v0).setCell (p := ⟨g, 1, none⟩) (by simp) v1).setCell (p := ⟨g, 2, none⟩) (by simp) v2).setCell (p := ⟨g, 3, none⟩) (by simp) v3).setCell (p := ⟨g, 4, none⟩) (by simp) v4).setCell (p := ⟨g, 5, none⟩) (by simp) v5).setCell (p := ⟨g, 6, none⟩) (by simp) v6)⟩
theorem row7 {W : World} {g : Nat} {o0 o1 o2 o3 o4 o5 o6 : Value} {e : TypeId} (h : W.heap[g]? = some (.cells #[o0, o1, o2, o3, o4, o5, o6] e (0, 0))) :
    W.cell? ⟨g, 0, none⟩ = some o0 ∧ W.cell? ⟨g, 1, none⟩ = some o1 ∧ W.cell? ⟨g, 2, none⟩ = some o2 ∧ W.cell? ⟨g, 3, none⟩ = some o3 ∧ W.cell? ⟨g, 4, none⟩ = some o4 ∧ W.cell? ⟨g, 5, none⟩ = some o5 ∧ W.cell? ⟨g, 6, none⟩ = some o6 ∧ (∀ j, W.frozen? ⟨g, j, none⟩ = false) ∧ g < W.heap.size := by
  refine ⟨?_, ?_, ?_, ?_, ?_, ?_, ?_, fun j => by simp [World.frozen?, h], (Array.getElem?_eq_some_iff.1 h).1⟩
  all_goals
    rw [cell_of_row W g _ _ _ (0, 0) h]
    rfl
theorem keep_thru {U W W' : World} {S : List Nat} {g i : Nat} {v : Value} (hc : U.cell? ⟨g, i, none⟩ = some v) (hg : Gro U W) (hon : OnlyS S W W') (hn : g ∉ S) : W'.cell? ⟨g, i, none⟩ = some v := by
  have hl := World.block_lt_of_cell? _ _ hc
  simp only at hl
  obtain ⟨os, d, rfl⟩ := hg
  exact (hon.cell (Nat.lt_of_lt_of_le hl (Gro.of U os d).size) hn i).trans (gro_keeps hc os d)
theorem keep_set {W : World} {g gp i j : Nat} {v u : Value} (hc : W.cell? ⟨g, i, none⟩ = some v) (hn : g ≠ gp) : (W.setCell ⟨gp, j, none⟩ u).cell? ⟨g, i, none⟩ = some v := by
  have hl := World.block_lt_of_cell? _ _ hc
  simp only at hl
  exact (((OnlyS.refl [gp] W).setCell (p := ⟨gp, j, none⟩) (by simp) u).cell hl (by simpa using hn) i).trans hc
theorem frz_thru {U W W' : World} {S : List Nat} {g : Nat} {o : Obj} (hb : U.heap[g]? = some o) (hg : Gro U W) (hon : OnlyS S W W') (hn : g ∉ S) : W'.heap[g]? = some o := by
  have hl := (Array.getElem?_eq_some_iff.1 hb).1
  exact (hon.block g (Nat.lt_of_lt_of_le hl hg.size) hn).trans (grow_blk hb hg)
end Go.Proofs.Ytfhcegblnhagjaa
namespace Go.Proofs.Ytfhcegblnhagjaa
open Go.RowKit
theorem elInt : Elem Try.prog 23 3 intT 8 := by
  obtain ⟨i0, hi, hz0, hz1, hz2⟩ := info_parts toIntS_info
  exact ⟨Try.underlying23, ⟨i0, _, hi, hz0, hz1, hz2, rfl⟩, by decide⟩
def padTo (cs : List Int) (n : Nat) : List Int := cs ++ List.replicate (n - cs.length) 0
def addTo (p : DProfile) (t : DStacks) (k : Nat) (n : Int) : DProfile := ⟨t, (padTo p.Counts t.Nodes.length).set k (((padTo p.Counts t.Nodes.length)[k]?).getD 0 + n)⟩
def addStack (p : DProfile) (l : List DFrame) (n : Int) : DProfile × Bool :=
  if profileOk p && btw n 0 1000000000000 then
    if 0 ≤ (internStack p.Stacks l).2 then
      if profileOk (addTo p (internStack p.Stacks l).1 (internStack p.Stacks l).2.toNat n) then (addTo p (internStack p.Stacks l).1 (internStack p.Stacks l).2.toNat n, true) else (p, false)
    else (p, false)
  else (p, false)
theorem addStack_len (p : DProfile) (l : List DFrame) (n : Int) : (addStack p l n).1.Stacks.Nodes.length ≤ p.Stacks.Nodes.length + l.length ∧ (addStack p l n).1.Counts.length ≤ p.Counts.length + p.Stacks.Nodes.length + l.length := by
  have h := internStack_len p.Stacks l
  unfold addStack
  split
  · split
    · split
      · simp only [addTo, padTo, List.length_set, List.length_append, List.length_replicate]
        omega
      · simp only
        omega
    · simp only
      omega
  · simp only
    omega
theorem internL_bd (ns : List DNode) (a : Int) (l : List DFrame) (h : a < ns.length ∨ l ≠ []) : (internL ns a l).2 < (internL ns a l).1.length := by
  induction l generalizing ns a with
  | nil => rcases h with h | h; exact h; exact absurd rfl h
  | cons f fs ih =>
    simp only [internL]
    split
    · exact ih _ _ (.inl (by simp only [List.length_append, List.length_cons, List.length_nil]; omega))
    · exact ih _ _ (.inl child_lt.2)
theorem internStack_bd (t : DStacks) (l : List DFrame) (h : 0 ≤ (internStack t l).2) : (internStack t l).2 < (internStack t l).1.Nodes.length ∧ t.Nodes.length ≤ (internStack t l).1.Nodes.length := by
  unfold internStack at h ⊢
  split at h
  · rename_i hc
    rw [if_pos hc]
    simp only [Bool.and_eq_true, Bool.not_eq_true'] at hc
    exact ⟨internL_bd _ _ _ (.inr (by intro h; rw [h] at hc; simp at hc)), (internL_len _ _ _).1⟩
  · simp at h
theorem countsOk_elem {L : Int} {cs : List Int} (h : countsOk L cs = true) {j : Nat} {c : Int} (hc : cs[j]? = some c) : 0 ≤ c ∧ c ≤ L := by
  induction cs generalizing L j with
  | nil => simp at hc
  | cons x xs ih =>
    simp only [countsOk, Bool.and_eq_true, btw_iff] at h
    cases j with
    | zero => simp at hc; omega
    | succ j =>
      have := ih h.2 (j := j) (by simpa using hc)
      omega
theorem padTo_len (cs : List Int) (n : Nat) (h : cs.length ≤ n) : (padTo cs n).length = n := by
  simp [padTo]; omega
theorem padTo_elem {cs : List Int} {n : Nat} (h : countsOk 1000000000000 cs = true) {j : Nat} {c : Int} (hc : (padTo cs n)[j]? = some c) : 0 ≤ c ∧ c ≤ 1000000000000 := by
  unfold padTo at hc
  rw [List.getElem?_append] at hc
  split at hc
  · exact countsOk_elem h hc
  · have := List.mem_of_getElem? hc
    simp at this
    omega
end Go.Proofs.Ytfhcegblnhagjaa
namespace Go.Proofs.Ytfhcegblnhagjaa
open Go.RowKit
theorem varN_len6 (k : Nat) : ∀ n, n < 128 ^ (k + 1) → (varN n).length ≤ k + 1 := by
  induction k with
  | zero => intro n h; rw [varN_lo (by simpa using h)]; simp
  | succ k ih =>
    intro n h
    by_cases hn : n < 128
    · rw [varN_lo hn]; simp
    · rw [varN_hi (by omega), List.length_cons]
      have := ih (n / 128) (by rw [Nat.pow_succ] at h; omega)
      omega
theorem varN_pos (n : Nat) : 1 ≤ (varN n).length := by
  by_cases hn : n < 128
  · rw [varN_lo hn]; simp
  · rw [varN_hi (by omega)]; simp
theorem encV_list {n : Nat} (h : n ≤ 1099511627775) : (encV n).data.toList = varN n := by
  unfold encV
  rw [if_pos (btw_mk (by omega) (by omega))]
  rfl
theorem encV_size (n : Int) : (encV n).size ≤ 6 := by
  unfold encV
  split
  · rename_i h
    obtain ⟨h1, h2⟩ := btw_iff.1 h
    have := varN_len6 5 n.toNat (by omega)
    show (varN n.toNat).toArray.size ≤ 6
    simpa using this
  · show (#[] : Array UInt8).size ≤ 6
    simp
theorem decGo_bd {L : List UInt8} {a : Nat} : ∀ (f k n : Nat) (m z : Nat), decGo L a f k n = (m, z, true) → k < z ∧ z ≤ k + f ∧ a + z ≤ L.length ∧ m ≤ 1099511627775 := by
  intro f
  induction f with
  | zero => intro k n m z h; simp [decGo] at h
  | succ f ih =>
    intro k n m z h
    cases hx : L[a + k]? with
    | none => rw [decGo_none hx] at h; simp at h
    | some b =>
      have hlt := (List.getElem?_eq_some_iff.1 hx).1
      rw [decGo_some hx] at h
      split at h
      · split at h
        · rename_i he
          simp only [Prod.mk.injEq, and_true] at h
          obtain ⟨h1, rfl⟩ := h
          refine ⟨by omega, by omega, by omega, ?_⟩
          rw [h1] at he
          by_cases hm : m ≤ 1099511627775
          · exact hm
          · exfalso
            have e0 : (encV (m : Int)).data.toList = [] := by
              unfold encV
              rw [if_neg (by simp [btw_iff]; omega)]
            rw [e0] at he
            have : ((L.drop a).take (k + 1)).length = 0 := by rw [← he]; rfl
            rw [List.length_take, List.length_drop] at this
            omega
        · simp at h
      · have := ih _ _ _ _ h
        omega
theorem decV_bd {s : ByteArray} {a : Int} {n z : Nat} (h : decV s a = (n, z, true)) : 0 ≤ a ∧ 1 ≤ z ∧ z ≤ 6 ∧ a + z ≤ s.size ∧ n ≤ 1099511627775 := by
  unfold decV at h
  split at h
  · rename_i h0
    have h1 := decGo_bd _ _ _ _ _ h
    have h2 : s.data.toList.length = s.size := by rw [Array.length_toList]; rfl
    omega
  · simp at h
theorem i64_and1 (n : Nat) (h : n ≤ 4611686018427387903) : bits .and .i64 (n : Int) 1 = (n : Int) % 2 := bits_mask .i64 62 (by decide) wraps_i64 1 (by decide) _ (by omega) (by omega)
def signed (n : Nat) : Int := if btw (n : Int) 0 1099511627775 then (if n % 2 = 1 then -((n : Int) + 1) / 2 else (n : Int) / 2) else 0
theorem signed_bd (n : Nat) : -1099511627776 ≤ signed n ∧ signed n ≤ 1099511627776 := by
  unfold signed
  split
  · rename_i h
    have := btw_iff.1 h
    split <;> omega
  · omega
theorem tdiv_neg2 (n q : Nat) (hn : n ≤ 4398046511104) (h : n + 1 = 2 * q) : wrap64 (-((n : Int) + 1).tdiv 2) = -((n : Int) + 1) / 2 := by
  have : (n : Int) + 1 = 2 * (q : Int) := by exact_mod_cast h
  rw [this, Int.mul_tdiv_cancel_left _ (by decide), wrap64_small (by omega) (by omega)]
  omega
def packT (s : ByteArray) : ByteArray := encV s.size ++ s
def unpT (s : ByteArray) (a : Int) : ByteArray × Nat × Bool :=
  if (decV s a).2.2 && decide ((decV s a).1 ≤ s.size - a.toNat - (decV s a).2.1) then (s.extract (a.toNat + (decV s a).2.1) (a.toNat + (decV s a).2.1 + (decV s a).1), (decV s a).2.1 + (decV s a).1, true) else (⟨#[]⟩, 0, false)
def RetUnpT (p : ByteArray × Nat × Bool) (w : World) (e : Ending) (w' : World) : Prop := e = .returned (.tuple #[.string p.1, .int .i64 p.2.1, .bool p.2.2]) ∧ Gro w w'
theorem ret_unpT {p q : ByteArray × Nat × Bool} (h : p = q) {w w' : World} (hG : Gro w w') : RetUnpT p w (.returned (.tuple #[.string q.1, .int .i64 q.2.1, .bool q.2.2])) w' := by
  subst h
  exact ⟨rfl, hG⟩
theorem and_not_all {α : Type} {xs : List α} {f : α → Bool} {j : Nat} {x : α} (h : xs[j]? = some x) (hf : f x = false) : xs.all f = false := allT_false h hf
def sgOk (n : Int) : Bool := btw n (-549755813888) 549755813887
theorem signless_bd {n : Int} (h : sgOk n = true) : 0 ≤ signless n ∧ signless n ≤ 1099511627775 := by
  unfold sgOk at h
  obtain ⟨h1, h2⟩ := btw_iff.1 h
  unfold signless
  rw [h, if_pos rfl]
  split <;> omega
def packL (l : List Int) : List UInt8 := (l.map fun n => (encV (signless n)).data.toList).flatten
theorem packL_snoc {l : List Int} {j : Nat} {x : Int} (h : l[j]? = some x) : packL (l.take (j + 1)) = packL (l.take j) ++ (encV (signless x)).data.toList := by
  unfold packL
  rw [take_snoc h, List.map_append, List.flatten_append]
  simp
theorem packL_len (l : List Int) (j : Nat) : (packL (l.take j)).length ≤ 6 * j := by
  have h : ∀ l : List Int, (packL l).length ≤ 6 * l.length := by
    intro l
    induction l with
    | nil => simp [packL]
    | cons x xs ih =>
      have h1 := encV_size (signless x)
      have h2 : (encV (signless x)).data.toList.length = (encV (signless x)).size := by rw [Array.length_toList]; rfl
      have h3 : packL (x :: xs) = (encV (signless x)).data.toList ++ packL xs := rfl
      rw [h3, List.length_append, List.length_cons]
      omega
  have := h (l.take j)
  have h2 := List.length_take_le j l
  omega
def packI (l : List Int) : ByteArray := if l.all sgOk then ⟨((encV l.length).data.toList ++ packL l).toArray⟩ else ⟨#[]⟩
theorem encV_llen (n : Int) : (encV n).data.toList.length ≤ 6 := by rw [Array.length_toList]; exact encV_size n
theorem OwnB.since {lo lo' : Nat} {W : World} {A : Option Addr} {c : Nat} {xs : List UInt8} (h : OwnB lo W A c xs) (hl : lo' ≤ lo) : OwnB lo' W A c xs := by
  obtain ⟨g, h0, h1, h2⟩ := h
  exact ⟨g, h0, Nat.le_trans hl h1, h2⟩
theorem llen (s : ByteArray) : s.data.toList.length = s.size := by rw [Array.length_toList]; rfl
theorem str_of (s : ByteArray) : (⟨s.data.toList.toArray⟩ : ByteArray) = s := by simp
theorem size_of (l : List UInt8) : (⟨l.toArray⟩ : ByteArray).size = l.length := by
  show l.toArray.size = _
  simp
def unpGo (s : ByteArray) (a : Int) : Nat → Nat → List Int → Option (List Int × Nat)
  | 0, z, acc => some (acc, z)
  | c + 1, z, acc => if (decV s (a + z)).2.2 then unpGo s a c (z + (decV s (a + z)).2.1) (acc ++ [signed (decV s (a + z)).1]) else none
def unpR : Option (List Int × Nat) → List Int × Nat × Bool
  | some (l, n) => (l, n, true)
  | none => ([], 0, false)
def unpI (s : ByteArray) (a : Int) : List Int × Nat × Bool := if (decV s a).2.2 then unpR (unpGo s a (decV s a).1 (decV s a).2.1 []) else ([], 0, false)
theorem unpGo_fail {s : ByteArray} {a : Int} {f q : Nat} {acc : List Int} {m t : Nat} (h : decV s (a + q) = (m, t, false)) : unpGo s a (f + 1) q acc = none := by
  simp [unpGo, h]
theorem unpGo_ok {s : ByteArray} {a : Int} {f q : Nat} {acc : List Int} {m t : Nat} (h : decV s (a + q) = (m, t, true)) : unpGo s a (f + 1) q acc = unpGo s a f (q + t) (acc ++ [signed m]) := by
  simp [unpGo, h]
theorem unpGo_none {s : ByteArray} {a : Nat} : ∀ {c z : Nat} {acc : List Int}, a + z ≤ s.size → s.size < a + z + c → unpGo s a c z acc = none := by
  intro c
  induction c with
  | zero => intro z acc h1 h2; omega
  | succ c ih =>
    intro z acc h1 h2
    obtain ⟨m, t, ok, hm⟩ : ∃ m t ok, decV s ((a : Int) + z) = (m, t, ok) := ⟨_, _, _, rfl⟩
    cases ok
    · exact unpGo_fail hm
    · have := decV_bd hm
      rw [unpGo_ok hm]
      exact ih (by omega) (by omega)
theorem decGo_zero {L : List UInt8} {a : Nat} : ∀ (f k n : Nat) (m z : Nat), decGo L a f k n = (m, z, false) → m = 0 ∧ z = 0 := by
  intro f
  induction f with
  | zero => intro k n m z h; simp [decGo] at h; omega
  | succ f ih =>
    intro k n m z h
    cases hx : L[a + k]? with
    | none => rw [decGo_none hx] at h; simp at h; omega
    | some b =>
      rw [decGo_some hx] at h
      split at h
      · split at h
        · simp at h
        · simp at h; omega
      · exact ih _ _ _ _ h
theorem decV_zero {s : ByteArray} {a : Int} {m z : Nat} (h : decV s a = (m, z, false)) : m = 0 ∧ z = 0 := by
  unfold decV at h
  split at h
  · exact decGo_zero _ _ _ _ _ h
  · simp at h; omega
def RetUnp (p : List Int × Nat × Bool) (w : World) (e : Ending) (w' : World) : Prop := ∃ A c, e = .returned (.tuple #[.slice A p.1.length c, .int .i64 p.2.1, .bool p.2.2]) ∧ Fresh (intT.sl 3) w w' [.slice A p.1.length c] p.1 ∧ Gro w w'
theorem ret_unp {p q : List Int × Nat × Bool} (h : p = q) {w w' : World} {A : Option Addr} {c : Nat} (hF : Fresh (intT.sl 3) w w' [.slice A q.1.length c] q.1) (hG : Gro w w') : RetUnp p w (.returned (.tuple #[.slice A q.1.length c, .int .i64 q.2.1, .bool q.2.2])) w' := by
  subst h
  exact ⟨A, c, rfl, hF, hG⟩
end Go.Proofs.Ytfhcegblnhagjaa
namespace Go.Proofs.Ytfhcegblnhagjaa
open Go.RowKit
theorem fresh_ints3 {W0 X W : World} {e : TypeId} {a b c : Int} (ha : I64 a) (hb : I64 b) (hc : I64 c) (hg : Gro (X.alloc (.cells #[.int .i64 a, .int .i64 b, .int .i64 c] e)) W) (h0 : Gro W0 X) {g : Nat} (hgX : g = X.heap.size) : Fresh (intT.sl e) W0 W [.slice (some ⟨g, 0, none⟩) 3 3] [a, b, c] := by
  subst hgX
  refine Fresh.gro ⟨[X.heap.size], own_made (xs := [a, b, c]) (heap_alloc_new X _) (show Rows intT _ _ [a, b, c] [] from ⟨[.int .i64 a], [.int .i64 b, .int .i64 c], [], [], rfl, rfl, ⟨rfl, ha.1, ha.2, rfl⟩, ⟨[.int .i64 b], [.int .i64 c], [], [], rfl, rfl, ⟨rfl, hb.1, hb.2, rfl⟩, ⟨[.int .i64 c], [], [], [], rfl, rfl, ⟨rfl, hc.1, hc.2, rfl⟩, rfl, rfl⟩⟩⟩) (by simp), by simp, fun b hb => ?_⟩ hg
  simp at hb
  subst hb
  exact h0.size
theorem packI_size (l : List Int) : (packI l).size ≤ 6 + 6 * l.length := by
  unfold packI
  split
  · rw [size_of, List.length_append]
    have h1 := encV_llen l.length
    have h2 := packL_len l l.length
    rw [List.take_length] at h2
    omega
  · show (#[] : Array UInt8).size ≤ _
    simp
def encS (x : DSample) : ByteArray := if sampleOk x then encV x.Thread ++ packI (x.View.Pc :: x.View.Sp :: x.View.Fp :: x.View.Words) else ⟨#[]⟩
end Go.Proofs.Ytfhcegblnhagjaa
namespace Go.Proofs.Ytfhcegblnhagjaa
open Go.RowKit
theorem signed_less {x : Int} (h : sgOk x = true) : signed (signless x).toNat = x := by
  have hb := signless_bd h
  unfold sgOk at h
  have h2 := btw_iff.1 h
  unfold signed
  rw [if_pos (btw_mk (by omega) (by omega))]
  have e : signless x = if x < 0 then -2 * x - 1 else 2 * x := by unfold signless; rw [h, if_pos rfl]
  split at e
  · rw [if_pos (by omega)]; omega
  · rw [if_neg (by omega)]; omega
theorem decGo_enc {L rest : List UInt8} {a N : Nat} (hN : N ≤ 1099511627775) (hL : L.drop a = varN N ++ rest) : ∀ (f k n m : Nat) (P : List UInt8), N = n + m * 128 ^ k → varN N = P ++ varN m → P.length = k → m < 128 ^ (f + 1) → decGo L a (f + 1) k n = (N, (varN N).length, true) := by
  intro f
  induction f with
  | zero =>
    intro k n m P h1 h2 h3 h4
    have hm : m < 128 := by simpa using h4
    have hx : L[a + k]? = some (UInt8.ofNat m) := by
      rw [← List.getElem?_drop, hL, h2, varN_lo hm, ← h3]
      simp
    have hb : (UInt8.ofNat m).toNat = m := UInt8.toNat_ofNat_of_lt' (by show m < 256; omega)
    rw [decGo_some hx, hb, if_pos hm, Nat.mod_eq_of_lt hm, ← h1, encV_list hN]
    have hl : (varN N).length = k + 1 := by rw [h2, varN_lo hm, List.length_append, h3]; rfl
    rw [if_pos (by rw [hL, ← hl]; simp), hl]
  | succ f ih =>
    intro k n m P h1 h2 h3 h4
    by_cases hm : m < 128
    · have hx : L[a + k]? = some (UInt8.ofNat m) := by
        rw [← List.getElem?_drop, hL, h2, varN_lo hm, ← h3]
        simp
      have hb : (UInt8.ofNat m).toNat = m := UInt8.toNat_ofNat_of_lt' (by show m < 256; omega)
      rw [decGo_some hx, hb, if_pos hm, Nat.mod_eq_of_lt hm, ← h1, encV_list hN]
      have hl : (varN N).length = k + 1 := by rw [h2, varN_lo hm, List.length_append, h3]; rfl
      rw [if_pos (by rw [hL, ← hl]; simp), hl]
    · have hv := varN_hi (n := m) (by omega)
      have hx : L[a + k]? = some (UInt8.ofNat (m % 128 + 128)) := by
        rw [← List.getElem?_drop, hL, h2, hv, ← h3]
        simp
      have hb : (UInt8.ofNat (m % 128 + 128)).toNat = m % 128 + 128 := UInt8.toNat_ofNat_of_lt' (by show m % 128 + 128 < 256; omega)
      rw [decGo_some hx, hb, if_neg (by omega)]
      have e1 : (m % 128 + 128) % 128 = m % 128 := by omega
      rw [e1]
      refine ih (k + 1) _ (m / 128) (P ++ [UInt8.ofNat (m % 128 + 128)]) ?_ (by rw [h2, hv]; simp) (by simp [h3]) (by rw [Nat.pow_succ] at h4; omega)
      have e2 : m * 128 ^ k = (m % 128 + 128 * (m / 128)) * 128 ^ k := by rw [Nat.mod_add_div]
      rw [h1, e2, Nat.add_mul, Nat.pow_succ]
      rw [Nat.add_assoc, Nat.mul_comm 128 (m / 128), Nat.mul_assoc, Nat.mul_comm 128 (128 ^ k)]
theorem decV_enc {s : ByteArray} {a N : Nat} {rest : List UInt8} (hN : N ≤ 1099511627775) (hL : s.data.toList.drop a = varN N ++ rest) : decV s a = (N, (varN N).length, true) := by
  unfold decV
  rw [if_pos (by omega), Int.toNat_natCast]
  exact decGo_enc hN hL 5 0 0 N [] (by simp) rfl rfl (by omega)
theorem packL_cons {x : Int} {l : List Int} (h : sgOk x = true) : packL (x :: l) = varN (signless x).toNat ++ packL l := by
  have hb := signless_bd h
  have : (encV (signless x)).data.toList = varN (signless x).toNat := by
    obtain ⟨n, hn⟩ := Int.eq_ofNat_of_zero_le hb.1
    rw [hn]
    exact encV_list (by omega)
  rw [← this]
  rfl
theorem unpGo_enc {s : ByteArray} {a : Nat} : ∀ (l : List Int) (z : Nat) (acc : List Int) (rest : List UInt8), l.all sgOk = true → s.data.toList.drop (a + z) = packL l ++ rest → unpGo s a l.length z acc = some (acc ++ l, z + (packL l).length)
  | [], z, acc, rest, _, _ => by simp [unpGo, packL]
  | x :: l, z, acc, rest, h, hd => by
    simp only [List.all_cons, Bool.and_eq_true] at h
    have hb := signless_bd h.1
    rw [packL_cons h.1, List.append_assoc] at hd
    have h1 := decV_enc (N := (signless x).toNat) (by omega) hd
    have e : ((a + z : Nat) : Int) = (a : Int) + z := by omega
    rw [e] at h1
    rw [List.length_cons, unpGo_ok h1, unpGo_enc l _ _ rest h.2 (by rw [← Nat.add_assoc, ← List.drop_drop, hd]; simp), signed_less h.1, packL_cons h.1]
    simp [Nat.add_assoc]
theorem unpI_enc {s : ByteArray} {a : Nat} {l : List Int} {rest : List UInt8} (hl : l.length ≤ 1099511627775) (h : l.all sgOk = true) (hd : s.data.toList.drop a = varN l.length ++ (packL l ++ rest)) : unpI s a = (l, (varN l.length).length + (packL l).length, true) := by
  have h1 := decV_enc hl hd
  unfold unpI
  rw [h1]
  simp only [if_true]
  rw [unpGo_enc l _ [] rest h (by rw [← List.drop_drop, hd]; simp)]
  simp [unpR]
def zSample : DSample := ⟨0, ⟨0, 0, 0, []⟩⟩
def mkS (t : Int) (l : List Int) : DSample := ⟨t, ⟨(l[0]?).getD 0, (l[1]?).getD 0, (l[2]?).getD 0, l.drop 3⟩⟩
def decS (s : ByteArray) : DSample × Bool :=
  if (unpI s (decV s 0).2.1).2.2 = true ∧ 3 ≤ (unpI s (decV s 0).2.1).1.length ∧ encS (mkS (decV s 0).1 (unpI s (decV s 0).2.1).1) = s then (mkS (decV s 0).1 (unpI s (decV s 0).2.1).1, true) else (zSample, false)
theorem ba_eq {x y : ByteArray} (h : x.data.toList = y.data.toList) : x = y := by
  cases x; cases y; simpa using h
theorem decS_more {s : ByteArray} (h1 : (unpI s (decV s 0).2.1).2.2 = true) (h2 : 3 ≤ (unpI s (decV s 0).2.1).1.length) (h2' : (unpI s (decV s 0).2.1).1.length ≤ 1099511627775) (h3 : encS (mkS (decV s 0).1 (unpI s (decV s 0).2.1).1) = s) :
    (decV s 0).2.2 = true ∧ (decV s 0).2.1 + (unpI s (decV s 0).2.1).2.1 = s.size := by
  obtain ⟨t, z, ok, hd⟩ : ∃ t z ok, decV s 0 = (t, z, ok) := ⟨_, _, _, rfl⟩
  rw [hd] at h1 h2 h2' h3 ⊢
  simp only at h1 h2 h2' h3 ⊢
  obtain ⟨l, n, ok2, hu⟩ : ∃ l n ok2, unpI s z = (l, n, ok2) := ⟨_, _, _, rfl⟩
  rw [hu] at h1 h2 h2' h3 ⊢
  simp only at h1 h2 h2' h3 ⊢
  subst h1
  unfold encS at h3
  split at h3
  · rename_i hok
    have hl : [(mkS t l).View.Pc, (mkS t l).View.Sp, (mkS t l).View.Fp] ++ (mkS t l).View.Words = l := by
      match l, h2 with
      | a :: b :: c :: r, _ => rfl
    have hl' : ((mkS t l).View.Pc :: (mkS t l).View.Sp :: (mkS t l).View.Fp :: (mkS t l).View.Words) = l := hl
    simp only [sampleOk, viewOk, Bool.and_eq_true] at hok
    obtain ⟨k1, ⟨k2, k3⟩, k4, k5, k6⟩ := hok
    have hall : l.all sgOk = true := by
      rw [← hl]
      simp only [List.all_append, List.all_cons, List.all_nil, Bool.and_true, Bool.and_eq_true]
      have a4 := btw_iff.1 k4
      have a2 := btw_iff.1 k2
      exact ⟨⟨btw_mk (by omega) (by omega), btw_mk (by omega) (by omega), k5⟩, k6⟩
    rw [hl'] at h3
    have ht : t ≤ 1099511627775 := by
      have a1 := btw_iff.1 k1
      have : ((mkS t l).Thread : Int) = t := rfl
      omega
    have hs : s.data.toList = varN t ++ (varN l.length ++ (packL l ++ [])) := by
      rw [← h3]
      have e1 : (encV (mkS t l).Thread).data.toList = varN t := encV_list ht
      have e2 : (packI l).data.toList = varN l.length ++ packL l := by
        unfold packI
        rw [hall, if_pos rfl]
        show (encV l.length).data.toList ++ packL l = _
        rw [encV_list h2']
      rw [ByteArray.data_append, Array.toList_append, e1, e2, List.append_nil]
    have hd2 := decV_enc (s := s) (a := 0) ht hs
    rw [show ((0 : Nat) : Int) = 0 from rfl, hd] at hd2
    simp only [Prod.mk.injEq] at hd2
    obtain ⟨_, hz, hok⟩ := hd2
    have hu2 := unpI_enc (s := s) (a := z) (rest := []) h2' hall (by rw [hs, hz]; simp)
    rw [hu] at hu2
    simp only [Prod.mk.injEq] at hu2
    refine ⟨hok, ?_⟩
    have hsz : s.size = s.data.toList.length := by rw [Array.length_toList]; rfl
    rw [hu2.2.1, hsz, hs, hz]
    simp
  · exfalso
    have : decV s 0 = (0, 0, false) := by rw [← h3]; rfl
    rw [hd] at this
    simp only [Prod.mk.injEq] at this
    rw [this.2.1, ← h3] at hu
    have hq : unpI (⟨#[]⟩ : ByteArray) (0 : Nat) = ([], 0, false) := rfl
    rw [hq] at hu
    simp at hu
end Go.Proofs.Ytfhcegblnhagjaa
namespace Go.Proofs.Ytfhcegblnhagjaa
open Go.RowKit
theorem same_gro {a b : World} {n m : Nat} {os : Array Obj} {d d' : Nat} (h : Same n m a b) (hs : b.heap.size = a.heap.size) : Same n m (Go.Proofs.Ytfhcegblnhagjaa.gro a os d) (Go.Proofs.Ytfhcegblnhagjaa.gro b os d') := by
  intro k h1 h2
  simp only [Go.Proofs.Ytfhcegblnhagjaa.gro]
  by_cases hk : k < a.heap.size
  · rw [Array.getElem?_append_left (by omega), Array.getElem?_append_left (by omega)]
    exact h k h1 h2
  · rw [Array.getElem?_append_right (by omega), Array.getElem?_append_right (by omega), hs]
theorem same_alloc {a b : World} {n m : Nat} {o : Obj} (h : Same n m a b) (hs : b.heap.size = a.heap.size) : Same n m (a.alloc o) (b.alloc o) := by
  rw [gro_of_alloc, gro_of_alloc]
  exact same_gro h hs
theorem same_alloc_lo {a b : World} {n m : Nat} {o o' : Obj} (h : Same n m a b) (hs : b.heap.size = a.heap.size) (hm : m ≤ a.heap.size) : Same n m (a.alloc o) (b.alloc o') := by
  intro k h1 h2
  have e1 : (a.alloc o).heap[k]? = a.heap[k]? := by
    have := (show Gro a (a.alloc o) from (Gro.refl a).alloc o).block (k := k) (by omega)
    exact this
  have e2 : (b.alloc o').heap[k]? = b.heap[k]? := by
    have := (show Gro b (b.alloc o') from (Gro.refl b).alloc o').block (k := k) (by omega)
    exact this
  rw [e1, e2]
  exact h k h1 h2
theorem same_hi {a b : World} {n m : Nat} (hs : b.heap.size = a.heap.size) (hn : a.heap.size ≤ n) : Same n m a b := by
  intro k h1 _
  rw [Array.getElem?_eq_none (by omega), Array.getElem?_eq_none (by omega)]
theorem same_drew_l {a b : World} {n m : Nat} (h : Same n m a b) : Same n m a.drew b := h
section
variable {α : Type} {T : Ty α} {e : TypeId} {P : Program} {t : TypeId} {bytes : Nat} {ops : Array Oper} {rest : List Oper} {o : Oper} {a : Act} {Q : Exit → Act → World → Prop} {K : Act → World → Prop}
theorem run_append_cap0 (hE : Elem P t e T bytes) (hf : Flat T) {ty : TypeId} {W : World} {g : Nat} (hg0 : W.heap[g]? = some (.cells #[] e (0, 0))) 
    {B : Nat} {e' : TypeId} {A2 : Option Addr} {m c2 : Nat} {ys : List α} (hy : (T.sl e').R W B [.slice A2 m c2] ys) (hb : m * bytes ≤ 140737488355328) (h63 : m ≤ 9223372036854775807) :
    ∃ A' c'' os d, (Builtin.append_ #[t, t] ty #[.slice (some ⟨g, 0, none⟩) 0 0, .slice A2 m c2]).run P W = .ok (.slice A' m c'') (gro W os d) ∧ Fr2N (T.sl e) g (g + 1) W.heap.size (gro W os d) [.slice A' m c''] ys := by
  obtain ⟨A2', c2', h1, h2, h3, h4, h5⟩ := id hy
  simp only [List.cons.injEq, Value.slice.injEq, and_true] at h1
  obtain ⟨rfl, rfl, rfl⟩ := h1
  obtain ⟨i, z, hi, hz, hz1, hz2, hz3⟩ := hE.info
  have hgl : g < W.heap.size := (Array.getElem?_eq_some_iff.1 hg0).1
  rcases Nat.eq_zero_or_pos ys.length with h0 | h0
  · have hys : ys = [] := List.eq_nil_of_length_eq_zero h0
    subst hys
    have hs : Src P i.size t (.slice A2 0 c2) 0 [] W := by
      cases A2 with
      | none => exact Src.ofNil W hE.ht c2
      | some ad => exact Src.ofSlice W hE.ht ad 0 c2 [] (by simp) (fun j u hu => by simp at hu) (fun u hu => by cases hu)
    have hr := run_append_room_src (P := P) W t t ty e i hE.ht hi g 0 0 0 (.slice A2 0 c2) 0 [] hs (by omega) (fun j hj => by simp at hj) (fun j hj => by simp at hj)
    refine ⟨some ⟨g, 0, none⟩, 0, #[], W.drawn, ?_, [g], ?_, by simp, fun b hb => by simp at hb; omega⟩
    · rw [← gro_refl]; exact hr
    · rw [← gro_refl]
      exact own_made (xs := ([] : List α)) hg0 (show Rows T W (#[] : Array Value).toList [] [] from ⟨rfl, rfl⟩) (by simp)
  · obtain ⟨g2, off, rfl, hgB, h6⟩ := h5 h0
    obtain ⟨cs, hrows, hlen, hcell⟩ := rows_of_flat (T := T) hf (w := W) (w' := W) (B := B) (g := g2) (off := off) ys 0 (fun i x hx => by
      obtain ⟨ec, h7, h8⟩ := h6 i x hx
      exact ⟨ec, h7, fun j u hu => by rw [Nat.zero_add]; exact h8 j u hu⟩)
    have hsrc : Src P i.size t (.slice (some ⟨g2, off, none⟩) ys.length c2) ys.length cs W := Src.ofSlice W hE.ht _ _ _ cs (by rw [hlen, hz1]) (fun j u hu => by
      have := hcell j u hu
      rw [Addr.add_lit, show off + j = off + 0 * T.size + j from by omega]
      exact this) (Rows.one hrows)
    have hr := run_append_grow_src (P := P) W t t ty e i z hE.ht hi hz (some ⟨g, 0, none⟩) 0 0 [] (run_firstCells_some W.drew i.size 0 _ 0 0 [] (by simp) (fun j u hu => by simp at hu)) (.slice (some ⟨g2, off, none⟩) ys.length c2) ys.length cs hsrc (by omega) (by omega) (growslice_fits (by omega) (by rw [hz2, Nat.zero_add]; exact hb))
    simp only [Nat.zero_add, List.nil_append] at hr
    have hge := grownCap_ge W ys.length 0 e
    have hle := grownCap_le_maxLen W ys.length 0 e
    generalize grownCap W ys.length 0 e = c' at hr hge hle
    by_cases hm : ys.length ≤ maxLen
    case neg =>
      exfalso
      unfold maxLen at hm
      omega
    have hle' := hle hm
    generalize hcur : (cs.toArray ++ Builtin.zeroCells z.cells (c' - ys.length)) = cur at hr
    have hW2 : W.drew.alloc (.cells cur e) = gro W #[.cells cur e] (W.drawn + 1) := by
      unfold gro World.alloc World.drew
      simp
    refine ⟨some ⟨W.heap.size, 0, none⟩, c', _, _, by rw [hr, hW2], [W.heap.size], ?_, by simp, fun b hb => by simp at hb; omega⟩
    rw [← hW2]
    refine ⟨_, c', cs, [], rfl, ⟨by rw [hlen], .inr ⟨W.heap.size, c', cur, rfl, Nat.zero_le _, heap_alloc_new W.drew _, hge, hle', ?_, ?_⟩⟩, Rows.keep hrows (fun k hk => by cases hk), rfl⟩
    · rw [← hcur, Array.size_append, size_zeroCells, hz3]
      simp only [List.size_toArray, hlen]
      rw [← Nat.add_mul]
      congr 1
      omega
    · rw [← hcur, Array.toList_append, List.take_append_of_le_length (by simp [hlen])]
      rw [List.take_of_length_le (by simp [hlen])]
theorem step_append_cap0 {E : Prop} (hgd : o.guard = none) (s x : Operand) (hE : Elem P t e T bytes) (hf : Flat T) {X W : World} {g : Nat} (hg : Gro (X.alloc (.cells #[] e)) W) (hgX : g = X.heap.size)
    {B : Nat} {e' : TypeId} {A2 : Option Addr} {m c2 : Nat} {ys : List α} (hy : (T.sl e').R W B [.slice A2 m c2] ys)
    (ho : o.op = .call { callee := .builtin .append, args := #[s, x], argTypes := #[t, t] }) (hs : a.eval s = .slice (some ⟨g, 0, none⟩) 0 0) (hx : a.eval x = .slice A2 m c2)
    (hb : m * bytes ≤ 140737488355328) (h63 : m ≤ 9223372036854775807)
    (hK : ∀ A' c'' os d, Fr2N (T.sl e) X.heap.size (X.heap.size + 1) W.heap.size (gro W os d) [.slice A' m c''] ys → K (a.put o.dst (.slice A' m c'')) (gro W os d)) : if Region.wanted o (yielded ops a.tmps) = true then Oper.wp P o a W K Q else E := by
  have hw : Region.wanted o (yielded ops a.tmps) = true := by simp [Region.wanted, hgd]
  rw [if_pos hw]
  subst hgX
  have hb0 : W.heap[X.heap.size]? = some (.cells #[] e (0, 0)) := by rw [hg.block (by simp)]; exact heap_alloc_new X _
  have hsz := hg.size
  rw [World.size_alloc] at hsz
  obtain ⟨A', c'', os, d, hrun, hF⟩ := run_append_cap0 (P := P) (ty := o.type) hE hf hb0 hy hb h63
  exact wp_of_run_append s x ho hs hx hrun (hK A' c'' os d hF)
end
end Go.Proofs.Ytfhcegblnhagjaa
namespace Go.Proofs.Ytfhcegblnhagjaa
open Go.RowKit
theorem decV_z {s : ByteArray} {a : Int} {t z : Nat} {ok : Bool} (h : decV s a = (t, z, ok)) : z ≤ 6 := by
  cases ok
  · have := decV_zero h; omega
  · have := decV_bd h; omega
theorem unpGo_bd {s : ByteArray} {a : Nat} : ∀ {c z : Nat} {acc l : List Int} {n : Nat}, a + z ≤ s.size → acc.length ≤ z → unpGo s a c z acc = some (l, n) → l.length ≤ n ∧ a + n ≤ s.size := by
  intro c
  induction c with
  | zero => intro z acc l n h1 h2 h; simp [unpGo] at h; obtain ⟨rfl, rfl⟩ := h; omega
  | succ c ih =>
    intro z acc l n h1 h2 h
    obtain ⟨m, t, ok, hm⟩ : ∃ m t ok, decV s ((a : Int) + z) = (m, t, ok) := ⟨_, _, _, rfl⟩
    cases ok
    · rw [unpGo_fail hm] at h; cases h
    · have := decV_bd hm
      rw [unpGo_ok hm] at h
      exact ih (by omega) (by simp; omega) h
theorem unpI_bd {s : ByteArray} {a : Nat} {l : List Int} {n : Nat} {ok : Bool} (h : unpI s a = (l, n, ok)) : l.length ≤ n ∧ n ≤ s.size := by
  unfold unpI at h
  split at h
  · rename_i hok
    obtain ⟨t, z, ok1, hd⟩ : ∃ t z ok, decV s (a : Int) = (t, z, ok) := ⟨_, _, _, rfl⟩
    rw [hd] at h hok
    simp only at h hok
    subst hok
    have hb := decV_bd hd
    cases hg : unpGo s a t z [] with
    | none => rw [hg] at h; simp [unpR] at h; obtain ⟨rfl, rfl, _⟩ := h; simp
    | some p =>
      obtain ⟨l', n'⟩ := p
      rw [hg] at h
      simp [unpR] at h
      obtain ⟨rfl, rfl, _⟩ := h
      have := unpGo_bd (by omega) (by simp) hg
      omega
  · simp at h; obtain ⟨rfl, rfl, _⟩ := h; simp
theorem unpI_len {s : ByteArray} {a : Nat} {l : List Int} {n : Nat} {ok : Bool} (h : unpI s a = (l, n, ok)) : l.length ≤ s.size := by have := unpI_bd h; omega
theorem unpI_n {s : ByteArray} {a : Nat} {l : List Int} {n : Nat} {ok : Bool} (h : unpI s a = (l, n, ok)) : n ≤ 6 + 6 * s.size := by have := unpI_bd h; omega
theorem decV_t {s : ByteArray} {a : Int} {t z : Nat} {ok : Bool} (h : decV s a = (t, z, ok)) : I64 (t : Int) := by
  cases ok
  · have := decV_zero h; exact ⟨by omega, by omega⟩
  · have := decV_bd h; exact ⟨by omega, by omega⟩
theorem sample_of {w W0 W : World} {x : DSample} {A : Option Addr} {c m : Nat} (h0 : I64 x.Thread) (h1 : I64 x.View.Pc) (h2 : I64 x.View.Sp) (h3 : I64 x.View.Fp) (hF : Fre (intT.sl 3) W0 m W [.slice A x.View.Words.length c] x.View.Words) (hw : w.heap.size ≤ W0.heap.size) :
    Fresh tSample w W [.int .i64 x.Thread, .int .i64 x.View.Pc, .int .i64 x.View.Sp, .int .i64 x.View.Fp, .slice A x.View.Words.length c] x :=
  tSample_fresh h0 (tView_fresh h1 h2 h3 hF hw).fre (Nat.le_refl _)
def RetDecS (p : DSample × Bool) (w : World) (e : Ending) (w' : World) : Prop := ∃ A0 c0, e = .returned (.tuple #[.agg #[.int .i64 p.1.Thread, .int .i64 p.1.View.Pc, .int .i64 p.1.View.Sp, .int .i64 p.1.View.Fp, .slice A0 p.1.View.Words.length c0], .bool p.2]) ∧ Fresh tSample w w' [.int .i64 p.1.Thread, .int .i64 p.1.View.Pc, .int .i64 p.1.View.Sp, .int .i64 p.1.View.Fp, .slice A0 p.1.View.Words.length c0] p.1 ∧ Gro w w'
theorem ret_decS {p : DSample × Bool} {x : DSample} {b : Bool} (hx : p = (x, b)) {w w' : World} {A : Option Addr} {c : Nat} (hF : Fresh tSample w w' [.int .i64 x.Thread, .int .i64 x.View.Pc, .int .i64 x.View.Sp, .int .i64 x.View.Fp, .slice A x.View.Words.length c] x) (hG : Gro w w') :
    RetDecS p w (.returned (.tuple #[.agg #[.int .i64 x.Thread, .int .i64 x.View.Pc, .int .i64 x.View.Sp, .int .i64 x.View.Fp, .slice A x.View.Words.length c], .bool b])) w' := by
  subst hx
  exact ⟨A, c, rfl, hF, hG⟩
theorem fresh_zS (W0 W : World) : Fresh tSample W0 W [.int .i64 0, .int .i64 0, .int .i64 0, .int .i64 0, .slice none 0 0] zSample := by
  have hv : Fresh tView W0 W [.int .i64 0, .int .i64 0, .int .i64 0, .slice none 0 0] ⟨0, 0, 0, []⟩ := tView_fresh (x := ⟨0, 0, 0, []⟩) ⟨by simp, by simp⟩ ⟨by simp, by simp⟩ ⟨by simp, by simp⟩ (fre_nil W0 W) (Nat.le_refl _)
  exact tSample_fresh (x := zSample) ⟨by simp [zSample], by simp [zSample]⟩ hv.fre (Nat.le_refl _)
theorem decS_len (s : ByteArray) : (decS s).1.View.Words.length ≤ s.size := by
  unfold decS
  split
  · have h := unpI_len (s := s) (a := (decV s 0).2.1) (l := (unpI s (decV s 0).2.1).1) (n := (unpI s (decV s 0).2.1).2.1) (ok := (unpI s (decV s 0).2.1).2.2) rfl
    show ((unpI s (decV s 0).2.1).1.drop 3).length ≤ _
    rw [List.length_drop]
    omega
  · simp [zSample]
end Go.Proofs.Ytfhcegblnhagjaa
namespace Go.Proofs.Ytfhcegblnhagjaa
open Go.RowKit
def viewOf (m : DMachine) (most : Int) : DView := if machineOk m = true ∧ 0 ≤ most then ⟨m.Pc, m.Sp, m.Fp, (m.Stack.drop m.Sp.toNat).take most.toNat⟩ else ⟨0, 0, 0, []⟩
theorem viewOf_len (m : DMachine) (most : Int) : (viewOf m most).Words.length ≤ 1200 := by
  unfold viewOf
  split
  · rename_i h
    have := h.1
    simp only [machineOk, Bool.and_eq_true, decide_eq_true_eq] at this
    simp only [List.length_take, List.length_drop]
    omega
  · simp
set_option maxRecDepth 100000 in
set_option maxHeartbeats 4000000 in
theorem copyView_i {v : DView} {w : World} {A : Option Addr} {n c : Nat} (hn : n = v.Words.length) (p0 : I64 v.Pc) (p1 : I64 v.Sp) (p2 : I64 v.Fp) (h3 : (intT.sl 3).R w w.heap.size [.slice A n c] v.Words) (hl : v.Words.length ≤ 1099511627776) :
    Calls Try.prog 97 #[.agg #[.int .i64 v.Pc, .int .i64 v.Sp, .int .i64 v.Fp, .slice A n c]] w (RetView v w) := by
  subst hn
  go_enter Try.func97, Try.ntmps97
  go_wp2_with (at_builtin; refine wpList_append_flat rfl (.tmp 3) (.tmp 5) elInt flat_int (fresh_empty (Gro.refl _) (by simp)) ((Gro.refl _).alloc _) (Ty.up _ h3 (by repeat (first | with_reducible exact Gro.refl _ | with_reducible exact Gro.refl_drew _ _ _ | with_reducible exact Gro.refl_drewN _ _ _ _ | assumption | with_reducible apply Gro.more | with_reducible apply Gro.alloc | with_reducible apply Gro.drew | with_reducible apply Gro.drewN))) rfl rfl rfl (Nat.zero_add _).symm (by omega) (by omega) ?_; intro B0 d0 os d hF)
  refine bodyPost_ret (v := .agg #[.int .i64 v.Pc, .int .i64 v.Sp, .int .i64 v.Fp, .slice B0 v.Words.length d0]) (by simp [results, Try.results97, go_sem]) rfl ⟨B0, d0, rfl, ?_, (by repeat (first | with_reducible exact Gro.refl _ | with_reducible exact Gro.refl_drew _ _ _ | with_reducible exact Gro.refl_drewN _ _ _ _ | assumption | with_reducible apply Gro.more | with_reducible apply Gro.alloc | with_reducible apply Gro.drew | with_reducible apply Gro.drewN))⟩
  exact tView_fresh p0 p1 p2 (hF.fre.same (by repeat (first | with_reducible exact Same.refl _ _ _ | ((with_reducible refine Same.base ?_ ?_) <;> (simp <;> omega)) | ((with_reducible refine Same.more ?_ ?_ _ _); rotate_left; simp <;> omega) | ((with_reducible refine Same.alloc ?_ ?_ _); rotate_left; simp <;> omega) | with_reducible apply Same.drew | with_reducible apply Same.drewN))) (by simp; omega)
/-- a machine's copy -/
theorem machine_fresh {w W : World} {x : DMachine} {A0 A1 : Option Addr} {c0 c1 : Nat} (h0 : I64 x.Pc) (h1 : I64 x.Sp) (h2 : I64 x.Fp) (h5 : I64 x.State) (h6 : I64 x.Value) {S0 S1 : List Nat} (h3 : Has (intT.sl 3) W [.slice A0 x.Stack.length c0] x.Stack S0) (h4 : Has (intT.sl 3) W [.slice A1 x.Out.length c1] x.Out S1) (hd : ∀ b ∈ S0, b ∉ S1) (hl0 : ∀ b ∈ S0, w.heap.size ≤ b) (hl1 : ∀ b ∈ S1, w.heap.size ≤ b) :
    Fresh tMachine w W [.int .i64 x.Pc, .int .i64 x.Sp, .int .i64 x.Fp, .slice A0 x.Stack.length c0, .slice A1 x.Out.length c1, .int .i64 x.State, .int .i64 x.Value] x :=
  ⟨_, tMachine_mkOd h0 h1 h2 h3.1 h4.1 h5 h6, List.nodup_append.2 ⟨h3.2, h4.2, fun a ha b hb he => hd a ha (he ▸ hb)⟩, fun b hb => (List.mem_append.1 hb).elim (hl0 b) (hl1 b)⟩
set_option maxRecDepth 100000 in
set_option maxHeartbeats 4000000 in
theorem copyMachine_i {x : DMachine} {w : World} {A0 A1 : Option Addr} {c0 c1 : Nat} (p0 : I64 x.Pc) (p1 : I64 x.Sp) (p2 : I64 x.Fp) (h3 : (intT.sl 3).R w w.heap.size [.slice A0 x.Stack.length c0] x.Stack) (h4 : (intT.sl 3).R w w.heap.size [.slice A1 x.Out.length c1] x.Out) (p5 : I64 x.State) (p6 : I64 x.Value) (hs : szMachine x ≤ 1099511627776) :
    Calls Try.prog 102 #[.agg #[.int .i64 x.Pc, .int .i64 x.Sp, .int .i64 x.Fp, .slice A0 x.Stack.length c0, .slice A1 x.Out.length c1, .int .i64 x.State, .int .i64 x.Value]] w (RetMachine x w) := by
  unfold szMachine at hs
  go_enter Try.func102, Try.ntmps102
  go_wp2_with (first
    | (at_builtin; refine wpList_append_flat rfl (.tmp 3) (.tmp 5) elInt flat_int (fresh_empty (Gro.refl _) (by simp)) ((Gro.refl _).alloc _) (Ty.up _ h3 (by repeat (first | with_reducible exact Gro.refl _ | with_reducible exact Gro.refl_drew _ _ _ | with_reducible exact Gro.refl_drewN _ _ _ _ | assumption | with_reducible apply Gro.more | with_reducible apply Gro.alloc | with_reducible apply Gro.drew | with_reducible apply Gro.drewN))) rfl rfl rfl (Nat.zero_add _).symm (by omega) (by omega) ?_; intro B0 d0 os d hF)
    | (at_builtin; refine wpList_append_flat rfl (.tmp 8) (.tmp 10) elInt flat_int (fresh_empty (Gro.refl _) (by simp)) ((Gro.refl _).alloc _) (Ty.up _ h4 (by repeat (first | with_reducible exact Gro.refl _ | with_reducible exact Gro.refl_drew _ _ _ | with_reducible exact Gro.refl_drewN _ _ _ _ | assumption | with_reducible apply Gro.more | with_reducible apply Gro.alloc | with_reducible apply Gro.drew | with_reducible apply Gro.drewN))) rfl rfl rfl (Nat.zero_add _).symm (by omega) (by omega) ?_; intro B1 d1 os1 d2 hF2))
  refine bodyPost_ret (v := .agg #[.int .i64 x.Pc, .int .i64 x.Sp, .int .i64 x.Fp, .slice B0 x.Stack.length d0, .slice B1 x.Out.length d1, .int .i64 x.State, .int .i64 x.Value]) (by simp [results, Try.results102, go_sem]) rfl ⟨B0, d0, B1, d1, rfl, ?_, (by repeat (first | with_reducible exact Gro.refl _ | with_reducible exact Gro.refl_drew _ _ _ | with_reducible exact Gro.refl_drewN _ _ _ _ | assumption | with_reducible apply Gro.more | with_reducible apply Gro.alloc | with_reducible apply Gro.drew | with_reducible apply Gro.drewN))⟩
  exact tMachine_fresh p0 p1 p2 (hF.fre.same (by repeat (first | with_reducible exact Same.refl _ _ _ | ((with_reducible refine Same.base ?_ ?_) <;> (simp <;> omega)) | ((with_reducible refine Same.more ?_ ?_ _ _); rotate_left; simp <;> omega) | ((with_reducible refine Same.alloc ?_ ?_ _); rotate_left; simp <;> omega) | with_reducible apply Same.drew | with_reducible apply Same.drewN))) (hF2.fre.same (by repeat (first | with_reducible exact Same.refl _ _ _ | ((with_reducible refine Same.base ?_ ?_) <;> (simp <;> omega)) | ((with_reducible refine Same.more ?_ ?_ _ _); rotate_left; simp <;> omega) | ((with_reducible refine Same.alloc ?_ ?_ _); rotate_left; simp <;> omega) | with_reducible apply Same.drew | with_reducible apply Same.drewN))) p5 p6 (by simp <;> omega) (by simp <;> omega) (by simp <;> omega)
set_option maxRecDepth 100000 in
set_option maxHeartbeats 4000000 in
theorem copyMachine_s {x : DMachine} {w : World} {A0 A1 : Option Addr} {c0 c1 : Nat} (p0 : I64 x.Pc) (p1 : I64 x.Sp) (p2 : I64 x.Fp) (h3 : (intT.sl 3).R w w.heap.size [.slice A0 x.Stack.length c0] x.Stack) (h4 : (intT.sl 3).R w w.heap.size [.slice A1 x.Out.length c1] x.Out) (p5 : I64 x.State) (p6 : I64 x.Value) (hs : szMachine x ≤ 1099511627776) :
    Calls Try.prog 100 #[.agg #[.int .i64 x.Pc, .int .i64 x.Sp, .int .i64 x.Fp, .slice A0 x.Stack.length c0, .slice A1 x.Out.length c1, .int .i64 x.State, .int .i64 x.Value]] w (RetMachine x w) := by
  unfold szMachine at hs
  go_enter Try.func100, Try.ntmps100
  go_wp2_with (first
    | (at_builtin; refine wpList_append_flat rfl (.tmp 3) (.tmp 5) elInt flat_int (fresh_empty (Gro.refl _) (by simp)) ((Gro.refl _).alloc _) (Ty.up _ h3 (by repeat (first | with_reducible exact Gro.refl _ | with_reducible exact Gro.refl_drew _ _ _ | with_reducible exact Gro.refl_drewN _ _ _ _ | assumption | with_reducible apply Gro.more | with_reducible apply Gro.alloc | with_reducible apply Gro.drew | with_reducible apply Gro.drewN))) rfl rfl rfl (Nat.zero_add _).symm (by omega) (by omega) ?_; intro B0 d0 os d hF)
    | (at_builtin; refine wpList_append_flat rfl (.tmp 8) (.tmp 10) elInt flat_int (fresh_empty (Gro.refl _) (by simp)) ((Gro.refl _).alloc _) (Ty.up _ h4 (by repeat (first | with_reducible exact Gro.refl _ | with_reducible exact Gro.refl_drew _ _ _ | with_reducible exact Gro.refl_drewN _ _ _ _ | assumption | with_reducible apply Gro.more | with_reducible apply Gro.alloc | with_reducible apply Gro.drew | with_reducible apply Gro.drewN))) rfl rfl rfl (Nat.zero_add _).symm (by omega) (by omega) ?_; intro B1 d1 os1 d2 hF2))
  refine bodyPost_ret (v := .agg #[.int .i64 x.Pc, .int .i64 x.Sp, .int .i64 x.Fp, .slice B0 x.Stack.length d0, .slice B1 x.Out.length d1, .int .i64 x.State, .int .i64 x.Value]) (by simp [results, Try.results100, go_sem]) rfl ⟨B0, d0, B1, d1, rfl, ?_, (by repeat (first | with_reducible exact Gro.refl _ | with_reducible exact Gro.refl_drew _ _ _ | with_reducible exact Gro.refl_drewN _ _ _ _ | assumption | with_reducible apply Gro.more | with_reducible apply Gro.alloc | with_reducible apply Gro.drew | with_reducible apply Gro.drewN))⟩
  exact tMachine_fresh p0 p1 p2 (hF.fre.same (by repeat (first | with_reducible exact Same.refl _ _ _ | ((with_reducible refine Same.base ?_ ?_) <;> (simp <;> omega)) | ((with_reducible refine Same.more ?_ ?_ _ _); rotate_left; simp <;> omega) | ((with_reducible refine Same.alloc ?_ ?_ _); rotate_left; simp <;> omega) | with_reducible apply Same.drew | with_reducible apply Same.drewN))) (hF2.fre.same (by repeat (first | with_reducible exact Same.refl _ _ _ | ((with_reducible refine Same.base ?_ ?_) <;> (simp <;> omega)) | ((with_reducible refine Same.more ?_ ?_ _ _); rotate_left; simp <;> omega) | ((with_reducible refine Same.alloc ?_ ?_ _); rotate_left; simp <;> omega) | with_reducible apply Same.drew | with_reducible apply Same.drewN))) p5 p6 (by simp <;> omega) (by simp <;> omega) (by simp <;> omega)
theorem view_zero (w W : World) (h : w.heap.size ≤ W.heap.size) : Fresh tView w W [.int .i64 0, .int .i64 0, .int .i64 0, .slice none 0 0] ⟨0, 0, 0, []⟩ :=
  tView_fresh (x := ⟨0, 0, 0, []⟩) ⟨by decide, by decide⟩ ⟨by decide, by decide⟩ ⟨by decide, by decide⟩ (fresh_nil W W).fre h
set_option maxRecDepth 100000 in
set_option maxHeartbeats 4000000 in
theorem viewOf_i {m : DMachine} {most : Int} {w : World} {A0 A1 : Option Addr} {c0 c1 : Nat} (p0 : I64 m.Pc) (p1 : I64 m.Sp) (p2 : I64 m.Fp) (h3 : (intT.sl 3).R w w.heap.size [.slice A0 m.Stack.length c0] m.Stack) (hs : m.Stack.length ≤ 1099511627776) (hm : I64 most) :
    Calls Try.prog 66 #[.agg #[.int .i64 m.Pc, .int .i64 m.Sp, .int .i64 m.Fp, .slice A0 m.Stack.length c0, .slice A1 m.Out.length c1, .int .i64 m.State, .int .i64 m.Value], .int .i64 most] w (RetView (viewOf m most) w) := by
  obtain ⟨b, hb⟩ : ∃ b, machineOk m = b := ⟨_, rfl⟩
  have HB := Lib.hid hb
  cases b with
  | false =>
    have HQ := Lib.hid (show viewOf m most = ⟨0, 0, 0, []⟩ from by unfold viewOf; rw [hb]; simp)
    clear hb
    go_enter Try.func66, Try.ntmps66
    go_wp2_with (go_at_call 49; (with_reducible refine (machineOk_i (m := m) hs).mono ?_); rw [HB.out]; rintro e w1 ⟨rfl, os1, d1, rfl⟩)
    rw [HQ.out]
    exact bodyPost_ret (v := .agg #[.int .i64 0, .int .i64 0, .int .i64 0, .slice none 0 0]) (by simp [results, Try.results66, go_sem]) rfl ⟨none, 0, rfl, view_zero _ _ (by simp <;> omega), (by repeat (first | with_reducible exact Gro.refl _ | with_reducible exact Gro.refl_drew _ _ _ | with_reducible exact Gro.refl_drewN _ _ _ _ | assumption | with_reducible apply Gro.more | with_reducible apply Gro.alloc | with_reducible apply Gro.drew | with_reducible apply Gro.drewN))⟩
  | true =>
    by_cases hq : most < 0
    · have HQ := Lib.hid (show viewOf m most = ⟨0, 0, 0, []⟩ from by unfold viewOf; rw [if_neg (by omega)])
      have r0 : decide (most < 0) = true := decide_eq_true hq
      clear hb
      go_enter Try.func66, Try.ntmps66
      go_wp2_with (go_at_call 49; (with_reducible refine (machineOk_i (m := m) hs).mono ?_); rw [HB.out]; rintro e w1 ⟨rfl, os1, d1, rfl⟩)
      rw [HQ.out]
      exact bodyPost_ret (v := .agg #[.int .i64 0, .int .i64 0, .int .i64 0, .slice none 0 0]) (by simp [results, Try.results66, go_sem]) rfl ⟨none, 0, rfl, view_zero _ _ (by simp <;> omega), (by repeat (first | with_reducible exact Gro.refl _ | with_reducible exact Gro.refl_drew _ _ _ | with_reducible exact Gro.refl_drewN _ _ _ _ | assumption | with_reducible apply Gro.more | with_reducible apply Gro.alloc | with_reducible apply Gro.drew | with_reducible apply Gro.drewN))⟩
    have r0 : decide (most < 0) = false := decide_eq_false hq
    obtain ⟨k, rfl⟩ := Int.eq_ofNat_of_zero_le (show 0 ≤ most by omega)
    have hmo := hb
    simp only [machineOk, Bool.and_eq_true, decide_eq_true_eq] at hmo
    have hsp := btw_iff.1 hmo.1.2
    have hst := hmo.1.1
    obtain ⟨pc, spI, fp, stk, out, st, vl⟩ := m
    simp only at *
    obtain ⟨sp, rfl⟩ := Int.eq_ofNat_of_zero_le hsp.1
    have HQ := Lib.hid (show viewOf ⟨pc, (sp : Int), fp, stk, out, st, vl⟩ (k : Int) = ⟨pc, (sp : Int), fp, (stk.drop sp).take k⟩ from by unfold viewOf; rw [if_pos ⟨hb, by omega⟩]; rfl)
    obtain ⟨ws, hws⟩ : ∃ ws, (stk.drop sp).take k = ws := ⟨_, rfl⟩
    rw [hws] at HQ
    clear hb hmo
    have q1 : (sp : Int) ≤ 1200 := hsp.2
    obtain ⟨_, _, hx', hxl, hcm⟩ := sl_at h3
    injection hx' with e1 e2 e3
    subst e1 e3
    clear e2
    obtain ⟨B9, hsl, hd⟩ := run_from (P := Try.prog) elInt h3 (k := sp) (by omega)
    obtain ⟨L, hL⟩ : ∃ L, stk.length - sp = L := ⟨_, rfl⟩
    rw [hL] at hsl hd
    have hdl : (stk.drop sp).length = L := by rw [List.length_drop]; exact hL
    obtain ⟨mn, hmn, hmL, hmw⟩ : ∃ mn : Nat, (if (L : Int) < (k : Int) then (L : Int) else (k : Int)) = (mn : Int) ∧ mn ≤ L ∧ (stk.drop sp).take mn = (stk.drop sp).take k := by
      by_cases h : k ≤ L
      · exact ⟨k, if_neg (by omega), h, rfl⟩
      · exact ⟨L, if_pos (by omega), Nat.le_refl _, by rw [List.take_of_length_le (by omega), List.take_of_length_le (by omega)]⟩
    have hmn2 : (if L < k then (L : Int) else (k : Int)) = (mn : Int) := by rw [← hmn]; by_cases h : L < k <;> simp [h]
    obtain ⟨hsl2, hd2⟩ := run_upto (P := Try.prog) elInt hd hmL
    rw [hmw, hws] at hd2
    have hln : mn = ws.length := by rw [← hws, ← hmw, List.length_take]; omega
    have HLN := Lib.hid hln
    have HST := Lib.hid hst
    have hwl : ws.length ≤ 1099511627776 := by omega
    clear hst hdl hmw hL hln h3 hws
    go_enter Try.func66, Try.ntmps66
    go_wp2_with (go_at_call 49; (with_reducible refine (machineOk_i (m := ⟨pc, (sp : Int), fp, stk, out, st, vl⟩) hs).mono ?_); rw [HB.out]; rintro e w1 ⟨rfl, os1, d1, rfl⟩)
    have hG0 : Gro w (gro ((w.alloc (.cells #[.int .i64 pc, .int .i64 (sp : Int), .int .i64 fp, .slice A0 stk.length c0, .slice A1 out.length c1, .int .i64 st, .int .i64 vl] 80)).alloc (.cells #[.int .i64 0, .int .i64 0, .int .i64 0, .slice none 0 0] 49)) os1 d1) := (by repeat (first | with_reducible exact Gro.refl _ | with_reducible exact Gro.refl_drew _ _ _ | with_reducible exact Gro.refl_drewN _ _ _ _ | assumption | with_reducible apply Gro.more | with_reducible apply Gro.alloc | with_reducible apply Gro.drew | with_reducible apply Gro.drewN))
    have eb : (gro ((w.alloc (.cells #[.int .i64 pc, .int .i64 (sp : Int), .int .i64 fp, .slice A0 stk.length c0, .slice A1 out.length c1, .int .i64 st, .int .i64 vl] 80)).alloc (.cells #[.int .i64 0, .int .i64 0, .int .i64 0, .slice none 0 0] 49)) os1 d1).heap[w.heap.size]? = some (.cells #[.int .i64 pc, .int .i64 (sp : Int), .int .i64 fp, .slice A0 stk.length c0, .slice A1 out.length c1, .int .i64 st, .int .i64 vl] 80 (0, 0)) := grow_blk (heap_alloc_new w _) (by (repeat (first | with_reducible exact Gro.refl _ | with_reducible exact Gro.refl_drew _ _ _ | with_reducible exact Gro.refl_drewN _ _ _ _ | assumption | with_reducible apply Gro.more | with_reducible apply Gro.alloc | with_reducible apply Gro.drew | with_reducible apply Gro.drewN)); done)
    have er : (gro ((w.alloc (.cells #[.int .i64 pc, .int .i64 (sp : Int), .int .i64 fp, .slice A0 stk.length c0, .slice A1 out.length c1, .int .i64 st, .int .i64 vl] 80)).alloc (.cells #[.int .i64 0, .int .i64 0, .int .i64 0, .slice none 0 0] 49)) os1 d1).heap[w.heap.size + 1]? = some (.cells #[.int .i64 0, .int .i64 0, .int .i64 0, .slice none 0 0] 49 (0, 0)) := grow_blk (show ((w.alloc (.cells #[.int .i64 pc, .int .i64 (sp : Int), .int .i64 fp, .slice A0 stk.length c0, .slice A1 out.length c1, .int .i64 st, .int .i64 vl] 80)).alloc (.cells #[.int .i64 0, .int .i64 0, .int .i64 0, .slice none 0 0] 49)).heap[w.heap.size + 1]? = _ from by have h := heap_alloc_new (w.alloc (.cells #[.int .i64 pc, .int .i64 (sp : Int), .int .i64 fp, .slice A0 stk.length c0, .slice A1 out.length c1, .int .i64 st, .int .i64 vl] 80)) (.cells #[.int .i64 0, .int .i64 0, .int .i64 0, .slice none 0 0] 49); rw [World.size_alloc] at h; exact h) (by (repeat (first | with_reducible exact Gro.refl _ | with_reducible exact Gro.refl_drew _ _ _ | with_reducible exact Gro.refl_drewN _ _ _ _ | assumption | with_reducible apply Gro.more | with_reducible apply Gro.alloc | with_reducible apply Gro.drew | with_reducible apply Gro.drewN)); done)
    have hd3 := Ty.up _ hd2 hG0
    obtain ⟨g, hg⟩ : ∃ g, w.heap.size = g := ⟨_, rfl⟩
    rw [hg] at eb er ⊢
    generalize (gro ((w.alloc (.cells #[.int .i64 pc, .int .i64 (sp : Int), .int .i64 fp, .slice A0 stk.length c0, .slice A1 out.length c1, .int .i64 st, .int .i64 vl] 80)).alloc (.cells #[.int .i64 0, .int .i64 0, .int .i64 0, .slice none 0 0] 49)) os1 d1) = Y at hG0 eb er hd3 ⊢
    obtain ⟨y0, y1, y2, y3, y4, y5, y6, _, yl⟩ := row7 eb
    obtain ⟨z0, z1, z2, z3, zf⟩ := box4 er
    have zl := (Array.getElem?_eq_some_iff.1 er).1
    have hgg : g ≠ g + 1 := by omega
    clear hsl hd hd2
    go_region_held3 (fun w' => w'.cell? ⟨g, 0, none⟩ = some (.int .i64 pc) ∧ w'.cell? ⟨g, 1, none⟩ = some (.int .i64 (sp : Int)) ∧ w'.cell? ⟨g, 2, none⟩ = some (.int .i64 fp)) ((repeat' apply And.intro) <;> ((repeat (first | with_reducible assumption | with_reducible refine gro_keeps ?_ _ _ | with_reducible refine alloc_keeps ?_ _ | with_reducible refine drew_keeps ?_ | with_reducible refine keep_set ?_ ?_)); done)) (first
      | (go_at_call 97; (with_reducible refine (copyView_i (v := ⟨pc, (sp : Int), fp, ws⟩) HLN.out p0 p1 p2 (Ty.up _ hd3 (by repeat (first | with_reducible exact Gro.refl _ | with_reducible exact Gro.refl_drew _ _ _ | with_reducible exact Gro.refl_drewN _ _ _ _ | assumption | with_reducible apply Gro.more | with_reducible apply Gro.alloc | with_reducible apply Gro.drew | with_reducible apply Gro.drewN))) hwl).mono ?_); rintro e w2 ⟨Bv, cv, rfl, hFv, os2, d2, rfl⟩))
    go_wp2_with (fail)
    rw [HQ.out]
    have h2 := set4 er (.int .i64 pc) (.int .i64 (sp : Int)) (.int .i64 fp) (.slice Bv ws.length cv)
    obtain ⟨r0, r1, r2, r3, _⟩ := box4 h2.1
    have r0' := gro_keeps r0 os2 d2
    have r1' := gro_keeps r1 os2 d2
    have r2' := gro_keeps r2 os2 d2
    have r3' := gro_keeps r3 os2 d2
    exact bodyPost_ret (v := .agg #[.int .i64 pc, .int .i64 (sp : Int), .int .i64 fp, .slice Bv ws.length cv]) (by simp [results, Try.results66, go_sem, r0', r1', r2', r3']) rfl ⟨Bv, cv, rfl, ((hFv.fre.same (by repeat (first | with_reducible exact Same.refl _ _ _ | ((with_reducible refine Same.base ?_ ?_) <;> (simp <;> omega)) | ((with_reducible refine Same.more ?_ ?_ _ _); rotate_left; simp <;> omega) | ((with_reducible refine Same.alloc ?_ ?_ _); rotate_left; simp <;> omega) | with_reducible apply Same.drew | with_reducible apply Same.drewN))).since (by have := hG0.size; simp; omega)).fresh, ((h2.2.gro hG0 (fun b hb => by simp at hb; omega))).trans (by (repeat (first | with_reducible exact Gro.refl _ | with_reducible exact Gro.refl_drew _ _ _ | with_reducible exact Gro.refl_drewN _ _ _ _ | assumption | with_reducible apply Gro.more | with_reducible apply Gro.alloc | with_reducible apply Gro.drew | with_reducible apply Gro.drewN)); done)⟩
end Go.Proofs.Ytfhcegblnhagjaa
