/-
  BACKLAW: a text of frames parses back to them, in plain terms.
-/
import Derived.Test.YtdlkoffandhclaaDoorEntLaw
import Derived.Test.YtdlkoffandhclaaDoorParseLaw
set_option linter.unusedVariables false
set_option linter.unusedSimpArgs false
namespace Go.Proofs.YtdlkoffandhclaaDoor
open Go.RowKit
theorem frameB_no59 {f : DFrame} (hf : frameOk f = true) : (59 : UInt8) ∉ frameB f := fun k => by
  unfold frameB at k
  rcases List.mem_append.1 k with k | k
  · have := frameOk_name hf _ k
    simp at this
  · rcases List.mem_cons.1 k with k | k
    · exact absurd k (by decide)
    · exact no59 hf k
theorem valU_dec {n : Nat} (hn : n < 100) : valU (Lib.decDigits n) = n := by
  by_cases h1 : n < 10
  · rw [Lib.decDigits_one h1]
    simp only [valU, List.foldl_cons, List.foldl_nil, UInt8.toNat_ofNat']
    omega
  · rw [Lib.decDigits_two (by omega) hn]
    simp only [valU, List.foldl_cons, List.foldl_nil, UInt8.toNat_ofNat']
    omega
theorem parseU_back {n : Nat} (hn : n < 100) : parseU (Lib.decDigits n) = some n := by
  have h := parseU_ok (l := Lib.decDigits n) (by
    by_cases h1 : n < 10
    · rw [Lib.decDigits_one h1]; simp
    · rw [Lib.decDigits_two (by omega) hn]; simp) (List.all_eq_true.2 fun b hb => isDig_iff.2 (dec_bytes hn b hb)) (by rw [valU_dec hn]; omega) (by rw [valU_dec hn])
  rw [valU_dec hn] at h
  exact h
theorem part_back {f : DFrame} (hf : frameOk f = true) : parsePart (frameB f) = some f := by
  have n1 : (58 : UInt8) ∉ f.Name.data.toList := fun k => by have := frameOk_name hf _ k; simp at this
  have a := frameOk_line hf
  have n2 : (58 : UInt8) ∉ Lib.decDigits f.Line.toNat := fun k => by
    have := dec_bytes (by omega) _ k
    simp at this
  unfold parsePart frameB
  rw [cutA_at n1, cutA_no n2, List.nil_append, List.nil_append]
  simp only
  rw [parseU_back (by omega)]
  simp only [Option.map_some, Option.some.injEq]
  cases f
  simp only at a ⊢
  congr 1
  omega
theorem parseL_back : ∀ {l acc : List DFrame}, l.all frameOk = true → l ≠ [] → parseL (cutA 59 [] (joinF l)) acc = some (acc ++ l)
  | [], _, _, h => absurd rfl h
  | [f], acc, h, _ => by
    simp only [List.all_cons, List.all_nil, Bool.and_true] at h
    rw [joinF_one, cutA_no (frameB_no59 h), List.nil_append, parseL_some (part_back h), parseL]
  | f :: g :: l, acc, h, _ => by
    rw [List.all_cons, Bool.and_eq_true] at h
    rw [joinF_cons2, cutA_at (frameB_no59 h.1), List.nil_append, parseL_some (part_back h.1), parseL_back h.2 (by simp)]
    simp
theorem joinF_pos {l : List DFrame} (h : l ≠ []) : joinF l ≠ [] := by
  cases l with
  | nil => exact absurd rfl h
  | cons f l =>
    cases l with
    | nil => rw [joinF_one]; simp [frameB]
    | cons g l => rw [joinF_cons2]; simp
theorem parse_back {l : List DFrame} (h : l.all frameOk = true) (hn : l ≠ []) : parseF (fmtF l) = some l := by
  have hf : fmtF l = ⟨(joinF l).toArray⟩ := by unfold fmtF; rw [if_pos h]
  unfold parseF
  rw [hf]
  simp only
  rw [parseL_back h hn, List.nil_append]
  simp only
  rw [if_neg]
  rintro (h1 | h1)
  · have := joinF_pos hn
    have h2 : (joinF l).length = 0 := by simpa [ByteArray.size] using h1
    exact this (List.length_eq_zero_iff.1 h2)
  · exact h1 hf
theorem dec_last {n : Nat} (hn : n < 100) : ∃ b, (Lib.decDigits n).getLast? = some b ∧ b ≠ 59 := by
  have hb : ∃ b, (Lib.decDigits n).getLast? = some b ∧ b ∈ Lib.decDigits n := by
    cases h : Lib.decDigits n with
    | nil =>
      exfalso
      by_cases h1 : n < 10
      · rw [Lib.decDigits_one h1] at h; cases h
      · rw [Lib.decDigits_two (by omega) hn] at h; cases h
    | cons a l => exact ⟨_, List.getLast?_eq_some_getLast (by simp), List.getLast_mem _⟩
  obtain ⟨b, h1, h2⟩ := hb
  refine ⟨b, h1, ?_⟩
  rintro rfl
  have := dec_bytes hn _ h2
  simp at this
theorem frameB_last {f : DFrame} (hf : frameOk f = true) (x : List UInt8) : ∃ b, (x ++ frameB f).getLast? = some b ∧ b ≠ 59 := by
  have a := frameOk_line hf
  obtain ⟨b, h1, h2⟩ := dec_last (n := f.Line.toNat) (by omega)
  refine ⟨b, ?_, h2⟩
  unfold frameB
  rw [← List.append_assoc, List.append_cons, List.getLast?_append, h1]
  rfl
theorem joinF_last : ∀ {l : List DFrame} (x : List UInt8), l.all frameOk = true → l ≠ [] → ∃ b, (x ++ joinF l).getLast? = some b ∧ b ≠ 59
  | [], _, _, h => absurd rfl h
  | [f], x, h, _ => by
    simp only [List.all_cons, List.all_nil, Bool.and_true] at h
    rw [joinF_one]
    exact frameB_last h x
  | f :: g :: l, x, h, _ => by
    rw [List.all_cons, Bool.and_eq_true] at h
    rw [joinF_cons2, ← List.append_assoc, List.append_cons]
    exact joinF_last _ h.2 (by simp)
theorem parse_more {l : List DFrame} (h : l.all frameOk = true) : parseF (fmtF l ++ ⟨#[59]⟩) = none := by
  cases hp : parseF (fmtF l ++ ⟨#[59]⟩) with
  | none => rfl
  | some fs =>
    exfalso
    obtain ⟨h1, h2⟩ := parseF_fmt hp
    have h3 : fs.all frameOk = true ∧ fs ≠ [] := by
      have h8 : (fmtF fs).size ≠ 0 := by rw [h1]; exact h2
      unfold fmtF at h8
      split at h8
      · rename_i k
        refine ⟨k, fun e => ?_⟩
        subst e
        exact h8 rfl
      · exact absurd rfl h8
    obtain ⟨b, h4, h5⟩ := joinF_last [] h3.1 h3.2
    have h6 := congrArg (fun s : ByteArray => s.data.toList.getLast?) h1
    simp only [ByteArray.data_append, Array.toList_append] at h6
    have h7 : (fmtF fs).data.toList = joinF fs := by unfold fmtF; rw [if_pos h3.1]
    rw [h7, List.getLast?_append] at h6
    rw [List.nil_append] at h4
    rw [h4] at h6
    simp at h6
    exact h5 h6
theorem parse_none : parseF ⟨#[]⟩ = none := by
  unfold parseF
  split
  · rw [if_pos (.inl rfl)]
  · rfl
theorem fmt_main7 : fmtF [⟨⟨#[109, 97, 105, 110]⟩, 7⟩] = ⟨#[109, 97, 105, 110, 58, 55]⟩ := by
  have h : frameOk ⟨⟨#[109, 97, 105, 110]⟩, 7⟩ = true := by decide
  unfold fmtF
  rw [if_pos (by simp [h]), joinF_one]
  unfold frameB
  rw [show (7 : Int).toNat = 7 from rfl, Lib.decDigits_one (by decide)]
  rfl
end Go.Proofs.YtdlkoffandhclaaDoor
