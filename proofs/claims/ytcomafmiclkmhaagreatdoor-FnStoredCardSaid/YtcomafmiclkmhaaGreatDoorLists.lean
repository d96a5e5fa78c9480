/-
  LISTS of ints and strings: eqIntS, eqStringS, toIntS, toStringS, szIntS, szStringS, markIntS, heldIntS, markText, markStringS, heldStringS.
-/
import Derived.Test.YtcomafmiclkmhaaGreatDoorCore
import Derived.Test.YtcomafmiclkmhaaGreatDoorMark
import Derived.Deep.RegionHeld3
set_option linter.unusedVariables false
set_option linter.unusedSimpArgs false
namespace Go.Proofs.YtcomafmiclkmhaaGreatDoor
open Go.RowKit
theorem run_byte_str (W : World) (x : Int) : (convert 22 9 (.slice (some ⟨W.heap.size, 0, none⟩) 1 1)).run Tryz.prog (W.alloc (.cells #[.int .u8 x] 5)) = .ok (.string ⟨#[UInt8.ofNat x.toNat]⟩) (W.alloc (.cells #[.int .u8 x] 5)) := by
  have h := run_convert_bytes_arg (P := Tryz.prog) (W.alloc (.cells #[.int .u8 x] 5)) 22 5 Tryz.underlying22 Tryz.underlying5 W.heap.size 0 1 1 [x] rfl (by
    intro i hi
    have : i = 0 := by omega
    subst this
    rw [World.cell?_alloc_at _ _ _ _ rfl]
    rfl) 9 Tryz.underlying9
  rw [h]
  rfl
def tdig : Nat → Nat → List UInt8 → List UInt8
  | 0, _, acc => acc
  | f + 1, n, acc => if n = 0 then acc else tdig f (n / 10) ((48 + UInt8.ofNat (n % 10)) :: acc)
theorem tdig_zero (f : Nat) (acc : List UInt8) : tdig f 0 acc = acc := by cases f <;> simp [tdig]
theorem tdig_pos {f m : Nat} (acc : List UInt8) (h : 0 < m) (hf : m ≤ f) : tdig f m acc = tdig (f - 1) (m / 10) ((48 + UInt8.ofNat (m % 10)) :: acc) := by
  obtain ⟨f', rfl⟩ : ∃ f', f = f' + 1 := ⟨f - 1, by omega⟩
  rw [tdig, if_neg (by omega)]
  rfl
theorem bytes_app (a b : List UInt8) : (⟨a.toArray⟩ : ByteArray) ++ ⟨b.toArray⟩ = ⟨(a ++ b).toArray⟩ := by
  apply toList_inj'.1
  rw [ByteArray.toList_eq, ByteArray.toList_eq]
  simp
def markTx (k : Int) : ByteArray := ⟨(109 :: tdig k.toNat k.toNat []).toArray⟩
theorem ret_str {a b : ByteArray} (h : a = b) : Ending.returned (.string a) = .returned (.string b) := by rw [h]
theorem val_str {a b : ByteArray} (h : a = b) : Value.string a = .string b := by rw [h]
/-! ### marks -/
def mkStrs (xs : List ByteArray) (k : Int) : List ByteArray := mkL (fun _ k => markTx k) (fun _ => 1) xs k
def mkInts (xs : List Int) (k : Int) : List Int := mkL (fun _ k => k) (fun _ => 1) xs k
theorem mkStrs_length (xs : List ByteArray) (k : Int) : (mkStrs xs k).length = xs.length := mkL_length _ _
theorem mkInts_length (xs : List Int) (k : Int) : (mkInts xs k).length = xs.length := mkL_length _ _
theorem cnt_one {α : Type} (xs : List α) : cntL (fun _ => 1) xs = xs.length := by
  induction xs with
  | nil => rfl
  | cons x xs ih => rw [cntL_cons, ih, List.length_cons]; omega
theorem cnt_one_take {α : Type} {xs : List α} {i : Nat} (h : i ≤ xs.length) : cntL (fun _ => 1) (xs.take i) = i := by
  rw [cnt_one, List.length_take]; omega
theorem szLe {α : Type} (f : α → Nat) (xs : List α) (j : Nat) : ((xs.take j).map f).sum ≤ (xs.map f).sum := cntL_take_le (cnt := f) xs j
theorem szSnoc {α : Type} (f : α → Nat) {xs : List α} {j : Nat} {x : α} (h : xs[j]? = some x) : ((xs.take (j + 1)).map f).sum = ((xs.take j).map f).sum + f x := cntL_snoc (cnt := f) h
theorem szAll {α : Type} (f : α → Nat) {xs : List α} {j : Nat} (h : j = xs.length) : ((xs.take j).map f).sum = (xs.map f).sum := by rw [h, List.take_length]
def szRes (left : Int) (n : Nat) : Int := if (n : Int) ≤ left then left - n else -1
def szL {α : Type} (f : α → Nat) (xs : List α) : Nat := xs.length + (xs.map f).sum
theorem szL_len {α : Type} (f : α → Nat) (xs : List α) : xs.length ≤ szL f xs := Nat.le_add_right _ _
theorem szL_elem {α : Type} (f : α → Nat) {xs : List α} {j : Nat} {x : α} (h : xs[j]? = some x) : f x ≤ szL f xs := by
  have h1 := szSnoc f h
  have h2 := szLe f xs (j + 1)
  unfold szL
  omega
theorem cntL_const {α : Type} (N : Nat) (xs : List α) : cntL (fun _ => N) xs = xs.length * N := by
  induction xs with
  | nil => simp [cntL]
  | cons x xs ih => rw [cntL_cons, ih, List.length_cons, Nat.add_mul, Nat.one_mul, Nat.add_comm]
theorem cntL_const_take {α : Type} (N : Nat) {xs : List α} {i : Nat} (h : i ≤ xs.length) : cntL (fun _ => N) (xs.take i) = i * N := by
  rw [cntL_const, List.length_take, Nat.min_eq_left h]
theorem markTx_size (k : Int) (h0 : 0 < k) (h1 : k ≤ 1099511627776) : (markTx k).size ≤ 9223372036854775807 := by
  have key : ∀ (f m : Nat) (acc : List UInt8), (tdig f m acc).length ≤ m + acc.length := by
    intro f
    induction f with
    | zero => intro m acc; simp [tdig]
    | succ f ih =>
      intro m acc
      unfold tdig
      split
      · omega
      · have := ih (m / 10) ((48 + UInt8.ofNat (m % 10)) :: acc)
        simp only [List.length_cons] at this
        omega
  have := key k.toNat k.toNat []
  simp only [List.length_nil, Nat.add_zero] at this
  show (109 :: tdig k.toNat k.toNat []).toArray.size ≤ _
  simp only [List.size_toArray, List.length_cons]
  omega
/-! ### sizes -/
theorem toIntS_info : (Tryz.prog.info? 3).map (fun i => (i.zero, i.size, i.bytes)) = some (some (.int .i64 0), 1, 8) := by kernel_rfl
theorem toStringS_info : (Tryz.prog.info? 9).map (fun i => (i.zero, i.size, i.bytes)) = some (some (.string ⟨#[]⟩), 1, 16) := by kernel_rfl
end Go.Proofs.YtcomafmiclkmhaaGreatDoor
