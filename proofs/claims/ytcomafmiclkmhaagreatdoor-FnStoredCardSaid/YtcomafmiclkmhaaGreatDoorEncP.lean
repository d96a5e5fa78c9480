/-
  ENCP: EncodeProfile: words, and the reference's walk.
-/
import Derived.Test.YtcomafmiclkmhaaGreatDoorNames2
import Derived.Test.YtcomafmiclkmhaaGreatDoorVarint3
import Derived.Deep.RegionHeld3
import Derived.Lib.SlicesS
set_option linter.unusedVariables false
set_option linter.unusedSimpArgs false
namespace Go.Proofs.YtcomafmiclkmhaaGreatDoor
open Go.RowKit
theorem app_list (acc : List UInt8) (s : ByteArray) : (⟨acc.toArray⟩ : ByteArray) ++ s = ⟨(acc ++ s.data.toList).toArray⟩ := by
  rw [← bytes_app, str_of]
def idxV (xs : List ByteArray) (s : ByteArray) : Int := match xs.findIdx? (fun y => decide (y = s)) with
  | some i => i
  | none => -1
theorem packT_size (s : ByteArray) : (packT s).size ≤ 6 + s.size := by
  unfold packT
  rw [ByteArray.size_append]
  have := encV_size s.size
  omega
def headL (ns : List ByteArray) : List UInt8 := (encV ns.length).data.toList ++ (ns.map fun s => (packT s).data.toList).flatten
def headL' (ns : List ByteArray) (i : Nat) : List UInt8 := (encV ns.length).data.toList ++ ((ns.take i).map fun s => (packT s).data.toList).flatten
theorem headL_snoc {ns : List ByteArray} {i : Nat} {s : ByteArray} (h : ns[i]? = some s) : headL' ns (i + 1) = headL' ns i ++ (packT s).data.toList := by
  unfold headL'
  rw [take_snoc h, List.map_append, List.flatten_append]
  simp
theorem headL_all (ns : List ByteArray) : headL' ns ns.length = headL ns := by
  unfold headL' headL
  rw [List.take_length]
def rowB (ns : List ByteArray) (x : DNode × Int) : List UInt8 := (encV (x.1.Parent + 1)).data.toList ++ ((encV (idxV ns x.1.Frame.Name)).data.toList ++ ((encV x.1.Frame.Line).data.toList ++ (encV x.2).data.toList))
def rowsL (ns : List ByteArray) (l : List (DNode × Int)) : List UInt8 := (l.map (rowB ns)).flatten
theorem rowsL_snoc {ns : List ByteArray} {l : List (DNode × Int)} {j : Nat} {x : DNode × Int} (h : l[j]? = some x) : rowsL ns (l.take (j + 1)) = rowsL ns (l.take j) ++ rowB ns x := by
  unfold rowsL
  rw [take_snoc h, List.map_append, List.flatten_append]
  simp
theorem zip_at {ns : List DNode} {cs : List Int} {j : Nat} {x : DNode} {n : Int} (h : ns[j]? = some x) (k : cs[j]? = some n) : (ns.zip cs)[j]? = some (x, n) := by
  rw [List.getElem?_zip_eq_some]
  exact ⟨h, k⟩
def encP (p : DProfile) : ByteArray := if profileOk p = true then ⟨(headL (namesOf p) ++ (encV p.Stacks.Nodes.length).data.toList ++ rowsL (namesOf p) (p.Stacks.Nodes.zip p.Counts)).toArray⟩ else ⟨#[]⟩
theorem profileOk_len {p : DProfile} (h : profileOk p = true) : p.Counts.length = p.Stacks.Nodes.length := by
  simp only [profileOk, Bool.and_eq_true, decide_eq_true_eq] at h
  exact h.2.1
theorem profileOk_stacks {p : DProfile} (h : profileOk p = true) : stacksOk p.Stacks = true := by
  simp only [profileOk, Bool.and_eq_true] at h
  exact h.1
theorem names_size {p : DProfile} (h : profileOk p = true) {s : ByteArray} (hs : s ∈ namesOf p) : s.size ≤ 8 := by
  have h1 := foldl_insB (p.Stacks.Nodes.map fun x => x.Frame.Name) []
  have h2 : bl s ∈ ((p.Stacks.Nodes.map fun x => x.Frame.Name).map bl).foldl insL [] := by
    have e : namesOf p = (p.Stacks.Nodes.map fun x => x.Frame.Name).foldl insB [] := by simp [namesOf, h]
    rw [e] at hs
    have := List.mem_map_of_mem (f := bl) hs
    rw [h1] at this
    exact this
  rw [(foldl_ins (by simp)).2] at h2
  simp only [List.not_mem_nil, or_false] at h2
  obtain ⟨s', hs', e⟩ := List.mem_map.1 h2
  obtain ⟨x, hx, rfl⟩ := List.mem_map.1 hs'
  rw [← bl_inj e]
  obtain ⟨j, hj⟩ := List.getElem?_of_mem hx
  have := stacksOk_node (profileOk_stacks h) hj
  have h3 := this.2.2
  simp only [frameOk, Bool.and_eq_true] at h3
  exact (nameOk_size h3.1).2
theorem idxv_at {xs : List ByteArray} {s y : ByteArray} {k : Nat} (h : xs[k]? = some y) (ha : (xs.take k).all (fun z => !decide (z = s)) = true) (he : y = s) : idxV xs s = k := by
  unfold idxV
  rw [findIdx_at h ha (by simp [he])]
theorem idxv_no {xs : List ByteArray} {s : ByteArray} (ha : xs.all (fun z => !decide (z = s)) = true) : idxV xs s = -1 := by
  unfold idxV
  rw [findIdx_no ha]
theorem idxFrom_eq (s : ByteArray) : ∀ (xs : List ByteArray) (i : Nat), Lib.idxFromS xs s i = match xs.findIdx? (fun y => decide (y = s)) with | some k => ((i + k : Nat) : Int) | none => -1
  | [], i => rfl
  | x :: xs, i => by
    rw [List.findIdx?_cons]
    by_cases h : x = s
    · simp [Lib.idxFromS, h]
    · have := idxFrom_eq s xs (i + 1)
      simp only [Lib.idxFromS, h, if_false, decide_false, Bool.false_eq_true]
      rw [this]
      cases xs.findIdx? (fun y => decide (y = s)) with
      | none => rfl
      | some k => show ((i + 1 + k : Nat) : Int) = ((i + (k + 1) : Nat) : Int); omega
theorem idxOf_eq (xs : List ByteArray) (s : ByteArray) : Lib.idxOfS xs s = idxV xs s := by
  unfold Lib.idxOfS idxV
  rw [idxFrom_eq]
  cases xs.findIdx? (fun y => decide (y = s)) with
  | none => rfl
  | some k => simp
theorem idx_i {xs : List ByteArray} {s : ByteArray} {w : World} {A : Option Addr} {c : Nat} (hx : (strT.sl 9).R w w.heap.size [.slice A xs.length c] xs) (hn : xs.length ≤ 1099511627776) :
    Calls Tryz.prog 17 #[.slice A xs.length c, .string s] w fun e w' => e = .returned (.int .i64 (idxV xs s)) ∧ Gro w w' := by
  rcases Nat.eq_zero_or_pos xs.length with h0 | h0
  · have : xs = [] := List.eq_nil_of_length_eq_zero h0
    subst this
    refine (Tryz.slices_Index_string_empty A c s w).mono ?_
    rintro e w' ⟨rfl, rfl⟩
    exact ⟨rfl, Gro.refl _⟩
  · obtain ⟨g, off, _, rfl, _⟩ := strs_at hx h0
    refine (Tryz.slices_Index_string g off xs.length c xs s w (Nat.le_refl _) (by omega) (fun j hj => ?_)).mono ?_
    · obtain ⟨g2, off2, y, hA, hyk, hcy, _⟩ := strs_at hx hj
      simp only [Option.some.injEq, Addr.mk.injEq, and_true] at hA
      obtain ⟨rfl, rfl⟩ := hA
      rw [hcy, List.getD_eq_getElem?_getD, hyk]
      rfl
    · rintro e w' ⟨rfl, rfl⟩
      exact ⟨ret_int (by rw [List.take_length, idxOf_eq]), Gro.refl _⟩
end Go.Proofs.YtcomafmiclkmhaaGreatDoor
