/-
  BYTES: a byte as a datum; '[]byte' read as a list of bytes; 'string(b)'.
-/
import Derived.Test.YtbhobjepjaeffaaCore
import Derived.Test.YtbhobjepjaeffaaAppend
set_option linter.unusedVariables false
set_option linter.unusedSimpArgs false
namespace Go.Proofs.Ytbhobjepjaeffaa
open Go.RowKit
def byteT : Ty UInt8 where
  size := 1
  R := fun _ _ cs x => cs = [.int .u8 (x.toNat : Int)]
  O := fun _ cs x S => cs = [.int .u8 (x.toNat : Int)] ∧ S = []
  lenR := by rintro _ _ _ _ rfl; rfl
  lenO := by rintro _ _ _ _ ⟨rfl, _⟩; rfl
  oneO := by rintro _ _ _ _ ⟨rfl, _⟩ u hu; simp at hu; subst hu; rfl
  oneR := by rintro _ _ _ _ rfl u hu; simp at hu; subst hu; rfl
  keepR := by rintro _ _ _ _ _ _ h _ _; exact h
  keepO := by rintro _ _ _ _ _ h _; exact h
  ltO := by rintro _ _ _ _ ⟨_, rfl⟩ k hk; simp at hk
  OR := by rintro _ _ _ _ _ ⟨h1, _⟩ _; exact h1
theorem flat_byte : Flat byteT := fun h _ => ⟨h, rfl⟩
theorem byte_mkR {w : World} {B : Nat} {x : Int} (h0 : 0 ≤ x) (h1 : x < 256) : byteT.R w B [.int .u8 x] (UInt8.ofNat x.toNat) := by
  obtain ⟨n, rfl⟩ := Int.eq_ofNat_of_zero_le h0
  show [Value.int .u8 (n : Int)] = [.int .u8 (((UInt8.ofNat (n : Int).toNat).toNat : Nat) : Int)]
  have : (UInt8.ofNat (n : Int).toNat).toNat = n := by
    rw [Int.toNat_natCast]
    exact UInt8.toNat_ofNat_of_lt' (by show n < 256; omega)
  rw [this]
theorem elByte : Elem Try.prog 152 5 byteT 1 := by
  refine ⟨Try.underlying152, ?_, by decide⟩
  have h : (Try.prog.info? 5).map (fun i => (i.zero, i.size, i.bytes)) = some (some (.int .u8 0), 1, 1) := by kernel_rfl
  cases hi : Try.prog.info? 5 with
  | none => rw [hi] at h; simp at h
  | some i =>
    rw [hi] at h
    simp only [Option.map_some, Option.some.injEq, Prod.mk.injEq] at h
    exact ⟨i, _, rfl, h.1, h.2.1, h.2.2, rfl⟩
/-- 'string(b)' -/
theorem conv_bytes {w : World} {B : Nat} {e' : TypeId} {A : Option Addr} {n c : Nat} {xs : List UInt8} (h : (byteT.sl e').R w B [.slice A n c] xs) :
    (convert 152 9 (.slice A n c)).run Try.prog w = .ok (.string ⟨xs.toArray⟩) w := by
  obtain ⟨A', c', h1, h2, h3, h4, h5⟩ := id h
  simp only [List.cons.injEq, Value.slice.injEq, and_true] at h1
  obtain ⟨rfl, rfl, rfl⟩ := h1
  rcases Nat.eq_zero_or_pos xs.length with h0 | h0
  · cases xs with
    | cons x xs => simp at h0
    | nil =>
      cases A with
      | none => exact run_convert_bytes_nil w _ _ Try.underlying152 Try.underlying5 _ _ _ Try.underlying9
      | some a =>
        rw [run_convert_bytes_string w _ _ _ _ _ _ Try.underlying152 Try.underlying5 Try.underlying9]
        rw [run_bytesToString w a _ _ [] (by simp [loadCells, loadCellsFrom, Sem.run_pure])]
        rfl
  · obtain ⟨g, off, rfl, hg, h6⟩ := h5 h0
    have hr := run_convert_bytes_arg (P := Try.prog) w 152 5 Try.underlying152 Try.underlying5 g off xs.length c (xs.map fun b => (b.toNat : Int)) (by simp) (by
      intro i hi
      obtain ⟨ec, h7, h8⟩ := h6 i _ (List.getElem?_eq_getElem hi)
      obtain rfl : ec = _ := h7
      have := h8 0 _ rfl
      rw [show off + i * byteT.size + 0 = off + i from by show off + i * 1 + 0 = _; omega] at this
      rw [this]
      simp [List.getD, List.getElem?_eq_getElem hi]) _ Try.underlying9
    rw [hr]
    have : ((fun n : Int => UInt8.ofNat n.toNat) ∘ fun b : UInt8 => (b.toNat : Int)) = id := by funext b; simp
    simp [strOfNums, this]
theorem str_toList (xs : List UInt8) : (⟨xs.toArray⟩ : ByteArray).toList = xs := by
  rw [ByteArray.toList_eq]
end Go.Proofs.Ytbhobjepjaeffaa
