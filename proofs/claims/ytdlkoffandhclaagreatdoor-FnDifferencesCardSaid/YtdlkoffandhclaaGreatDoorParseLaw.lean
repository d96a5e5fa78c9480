/-
  PARSE, THE PLAIN LAWS: texts cut at a byte; numbers in digits; frames out of their texts.
-/
import Derived.Test.YtdlkoffandhclaaGreatDoorFmt
import Derived.Lib.Split
set_option linter.unusedVariables false
set_option linter.unusedSimpArgs false
namespace Go.Proofs.YtdlkoffandhclaaGreatDoor
open Go.RowKit
def cutA (c : UInt8) : List UInt8 → List UInt8 → List (List UInt8)
  | cur, [] => [cur]
  | cur, b :: l => if b = c then cur :: cutA c [] l else cutA c (cur ++ [b]) l
theorem cutA_no {c : UInt8} : ∀ {l cur : List UInt8}, c ∉ l → cutA c cur l = [cur ++ l]
  | [], cur, _ => by simp [cutA]
  | b :: l, cur, h => by
    rw [cutA, if_neg (fun e => h (by rw [e]; exact List.mem_cons_self)), cutA_no (fun k => h (List.mem_cons_of_mem _ k))]
    simp
theorem cutA_at {c : UInt8} : ∀ {x cur y : List UInt8}, c ∉ x → cutA c cur (x ++ c :: y) = (cur ++ x) :: cutA c [] y
  | [], cur, y, _ => by simp [cutA]
  | b :: x, cur, y, h => by
    rw [List.cons_append, cutA, if_neg (fun e => h (by rw [e]; exact List.mem_cons_self)), cutA_at (fun k => h (List.mem_cons_of_mem _ k))]
    simp
theorem cutA_len {c : UInt8} : ∀ {l cur : List UInt8}, (cutA c cur l).length ≤ l.length + 1
  | [], cur => by simp [cutA]
  | b :: l, cur => by
    rw [cutA]
    split
    · have := cutA_len (c := c) (l := l) (cur := [])
      simp only [List.length_cons]
      omega
    · have := cutA_len (c := c) (l := l) (cur := cur ++ [b])
      simp only [List.length_cons]
      omega
theorem cutA_piece {c : UInt8} : ∀ {l cur p : List UInt8}, p ∈ cutA c cur l → p.length ≤ cur.length + l.length
  | [], cur, p, h => by simp only [cutA, List.mem_singleton] at h; subst h; simp
  | b :: l, cur, p, h => by
    rw [cutA] at h
    split at h
    · rcases List.mem_cons.1 h with rfl | h
      · omega
      · have := cutA_piece h
        simp only [List.length_cons, List.length_nil] at this ⊢
        omega
    · have := cutA_piece h
      simp only [List.length_append, List.length_cons, List.length_nil] at this ⊢
      omega
theorem idx_no {c : UInt8} : ∀ {l : List UInt8}, c ∉ l → Lib.index l [c] = -1
  | [], _ => rfl
  | b :: l, h => by
    have h1 : ¬ c = b := fun e => h (by rw [e]; exact List.mem_cons_self)
    rw [Lib.index, idx_no (fun k => h (List.mem_cons_of_mem _ k))]
    simp [h1]
theorem idx_at {c : UInt8} : ∀ {x y : List UInt8}, c ∉ x → Lib.index (x ++ c :: y) [c] = x.length
  | [], y, _ => by simp [Lib.index]
  | b :: x, y, h => by
    have h1 : ¬ c = b := fun e => h (by rw [e]; exact List.mem_cons_self)
    have hp : [c].isPrefixOf (b :: (x ++ c :: y)) = false := by simp [List.isPrefixOf, h1]
    rw [List.cons_append, Lib.index, idx_at (fun k => h (List.mem_cons_of_mem _ k)), hp, if_neg (by simp), if_neg (by simp <;> omega)]
    simp
theorem splitK_cut {c : UInt8} : ∀ (n : Nat) (s : List UInt8), s.length ≤ n → Lib.splitK [c] 0 (Lib.count s [c]) s = cutA c [] s := by
  intro n
  induction n with
  | zero =>
    intro s hs
    have : s = [] := List.length_eq_zero_iff.1 (by omega)
    subst this
    rw [Lib.count_miss (idx_no (by simp))]
    simp [Lib.splitK, cutA]
  | succ n ih =>
    intro s hs
    by_cases hc : c ∈ s
    · obtain ⟨x, y, rfl, hx⟩ := List.eq_append_cons_of_mem hc
      have hi := idx_at (y := y) hx
      rw [Lib.count_hit (by simp) hi, Nat.add_comm, Lib.splitK, hi, if_neg (by simp <;> omega), cutA_at hx]
      simp only [Int.toNat_natCast, Nat.add_zero, List.length_cons, List.length_nil, List.nil_append, List.take_left]
      rw [show (x ++ c :: y).drop (x.length + (0 + 1)) = y by rw [show x.length + (0 + 1) = (x ++ [c]).length by simp, show x ++ c :: y = (x ++ [c]) ++ y by simp, List.drop_left], ih y (by simp only [List.length_append, List.length_cons] at hs; omega)]
    · rw [Lib.count_miss (idx_no hc), cutA_no hc]
      simp [Lib.splitK]
def strs (l : List (List UInt8)) : List ByteArray := l.map fun x => ⟨x.toArray⟩
theorem split_cut (c : UInt8) (s : ByteArray) : Lib.splitB ⟨#[c]⟩ 0 (Lib.countB s ⟨#[c]⟩) s = strs (cutA c [] s.data.toList) := by
  have h := Lib.splitB_data ⟨#[c]⟩ 0 (Lib.countB s ⟨#[c]⟩) s
  have h2 := splitK_cut (c := c) s.data.toList.length s.data.toList (Nat.le_refl _)
  unfold strs
  rw [← h2]
  have h3 : (Lib.splitB ⟨#[c]⟩ 0 (Lib.countB s ⟨#[c]⟩) s).map (·.data.toList) = Lib.splitK [c] 0 (Lib.count s.data.toList [c]) s.data.toList := h
  rw [← h3, List.map_map]
  symm
  rw [List.map_id''.{0}]
  intro x
  simp
def isDig (b : UInt8) : Bool := decide (48 ≤ b.toNat) && decide (b.toNat ≤ 57)
theorem isDig_iff {b : UInt8} : isDig b = true ↔ 48 ≤ b.toNat ∧ b.toNat ≤ 57 := by simp [isDig]
def valU (l : List UInt8) : Nat := l.foldl (fun n b => n * 10 + (b.toNat - 48)) 0
theorem valU_snoc (l : List UInt8) (b : UInt8) : valU (l ++ [b]) = valU l * 10 + (b.toNat - 48) := by simp [valU]
theorem valU_take {l : List UInt8} {k : Nat} {b : UInt8} (h : l[k]? = some b) : valU (l.take (k + 1)) = valU (l.take k) * 10 + (b.toNat - 48) := by rw [take_snoc h, valU_snoc]
def parseU (l : List UInt8) : Option Nat := if l.length ≤ 10 ∧ l.all isDig = true ∧ valU l ≤ 1000000000 ∧ Lib.decDigits (valU l) = l then some (valU l) else none
theorem ofNat_sub {b : UInt8} (h : isDig b = true) : UInt8.ofNat (48 + (b.toNat - 48)) = b := by
  have := isDig_iff.1 h
  rw [show 48 + (b.toNat - 48) = b.toNat by omega]
  simp
theorem dec_val : ∀ (n : Nat) (l : List UInt8), l.length = n → l.all isDig = true → l ≠ [] → (l.length = 1 ∨ l.head? ≠ some 48) → Lib.decDigits (valU l) = l ∧ (l.head? ≠ some 48 → 0 < valU l) := by
  intro n
  induction n with
  | zero => intro l h _ h2; exact absurd (List.length_eq_zero_iff.1 h) h2
  | succ n ih =>
    intro l hl hd hne hh
    rcases List.eq_nil_or_concat l with rfl | ⟨l', b, rfl⟩
    · exact absurd rfl hne
    · rw [List.concat_eq_append] at *
      rw [List.all_append, Bool.and_eq_true] at hd
      have hb : isDig b = true := by have := hd.2; simpa using this
      have hb2 := isDig_iff.1 hb
      rw [valU_snoc]
      by_cases h0 : l' = []
      · subst h0
        simp only [valU, List.foldl_nil, Nat.zero_mul, Nat.zero_add, List.nil_append]
        rw [dec_lo (by omega), ofNat_sub hb]
        refine ⟨rfl, fun hx => ?_⟩
        simp only [List.head?_cons, ne_eq, Option.some.injEq] at hx
        have : b.toNat ≠ 48 := fun e => hx (by apply UInt8.toNat_inj.1; simpa using e)
        omega
      · have hlen : l'.length ≠ 0 := fun e => h0 (List.length_eq_zero_iff.1 e)
        have hhd : (l' ++ [b]).head? = l'.head? := by cases l' with | nil => exact absurd rfl h0 | cons x xs => rfl
        rw [hhd] at hh ⊢
        have hx : l'.head? ≠ some 48 := by
          rcases hh with hh | hh
          · simp only [List.length_append, List.length_cons, List.length_nil] at hh
            omega
          · exact hh
        have k := ih l' (by simp only [List.length_append, List.length_cons, List.length_nil] at hl; omega) hd.1 h0 (.inr hx)
        have hp := k.2 hx
        rw [dec_hi (by omega), show (valU l' * 10 + (b.toNat - 48)) / 10 = valU l' by omega, show (valU l' * 10 + (b.toNat - 48)) % 10 = b.toNat - 48 by omega, k.1, ofNat_sub hb]
        exact ⟨rfl, fun _ => by omega⟩
theorem dec_head : ∀ (n : Nat), 0 < n → ∃ b r, Lib.decDigits n = b :: r ∧ b ≠ 48 := by
  intro n
  induction n using Nat.strongRecOn with
  | _ n ih =>
    intro hn
    by_cases h : n < 10
    · rw [dec_lo h]
      refine ⟨_, _, rfl, fun e => ?_⟩
      have := congrArg UInt8.toNat e
      simp only [UInt8.toNat_ofNat'] at this
      have h48 : (48 : UInt8).toNat = 48 := rfl
      omega
    · rw [dec_hi (by omega)]
      obtain ⟨b, r, e, hb⟩ := ih (n / 10) (by omega) (by omega)
      rw [e]
      exact ⟨b, r ++ _, rfl, hb⟩
theorem parseU_zero {l : List UInt8} (h : 1 < l.length) (h0 : l.head? = some 48) : parseU l = none := by
  unfold parseU
  rw [if_neg]
  rintro ⟨_, _, _, hd⟩
  by_cases hz : valU l = 0
  · rw [hz, dec_lo (by omega)] at hd
    rw [← hd] at h
    simp at h
  · obtain ⟨b, r, e, hb⟩ := dec_head (valU l) (by omega)
    rw [e] at hd
    rw [← hd] at h0
    simp only [List.head?_cons, Option.some.injEq] at h0
    exact hb h0
theorem parseU_nil : parseU [] = none := by
  unfold parseU
  rw [if_neg]
  rintro ⟨_, _, _, hd⟩
  have h0 : valU [] = 0 := rfl
  rw [h0, dec_lo (by omega)] at hd
  cases hd
theorem parseU_long {l : List UInt8} (h : 10 < l.length) : parseU l = none := by
  unfold parseU
  rw [if_neg (fun k => by omega)]
theorem parseU_big {l : List UInt8} (h : 1000000000 < valU l) : parseU l = none := by
  unfold parseU
  rw [if_neg (fun k => by omega)]
theorem parseU_dig {l : List UInt8} {k : Nat} {b : UInt8} (h : l[k]? = some b) (hb : isDig b = false) : parseU l = none := by
  unfold parseU
  rw [if_neg]
  rintro ⟨_, hd, _⟩
  have := List.all_eq_true.1 hd b (List.mem_of_getElem? h)
  rw [hb] at this
  cases this
theorem parseU_dec {l : List UInt8} (h : Lib.decDigits (valU l) ≠ l) : parseU l = none := by
  unfold parseU
  rw [if_neg (fun k => h k.2.2.2)]
theorem parseU_ok {l : List UInt8} (h1 : l.length ≤ 10) (h2 : l.all isDig = true) (h3 : valU l ≤ 1000000000) (h4 : Lib.decDigits (valU l) = l) : parseU l = some (valU l) := by
  unfold parseU
  rw [if_pos ⟨h1, h2, h3, h4⟩]
theorem parseU_ok2 {l : List UInt8} (h1 : l.length ≤ 10) (h2 : l.all isDig = true) (h3 : valU l ≤ 1000000000) (h4 : l ≠ []) (h5 : ¬ (1 < l.length ∧ l.head? = some 48)) : parseU l = some (valU l) := by
  refine parseU_ok h1 h2 h3 (dec_val _ l rfl h2 h4 ?_).1
  have : l.length ≠ 0 := fun e => h4 (List.length_eq_zero_iff.1 e)
  by_cases h : l.length = 1
  · exact .inl h
  · exact .inr (fun e => h5 ⟨by omega, e⟩)
theorem parseU_le {l : List UInt8} {n : Nat} (h : parseU l = some n) : n ≤ 1000000000 := by
  unfold parseU at h
  split at h
  · rename_i k
    simp only [Option.some.injEq] at h
    omega
  · cases h
theorem valU_lt : ∀ (n : Nat) (l : List UInt8), l.length = n → l.all isDig = true → valU l < 10 ^ n := by
  intro n
  induction n with
  | zero =>
    intro l h _
    have : l = [] := List.length_eq_zero_iff.1 h
    subst this
    decide
  | succ n ih =>
    intro l hl hd
    rcases List.eq_nil_or_concat l with rfl | ⟨l', b, rfl⟩
    · simp at hl
    · rw [List.concat_eq_append] at *
      rw [List.all_append, Bool.and_eq_true] at hd
      have hb : isDig b = true := by have := hd.2; simpa using this
      have hb2 := isDig_iff.1 hb
      have := ih l' (by simp only [List.length_append, List.length_cons, List.length_nil] at hl; omega) hd.1
      rw [valU_snoc, Nat.pow_succ]
      omega
theorem valU_lt10 {l : List UInt8} (h : l.length ≤ 10) (hd : l.all isDig = true) : valU l < 10000000000 := by
  have h1 := valU_lt _ l rfl hd
  have h2 : (10 : Nat) ^ l.length ≤ 10 ^ 10 := Nat.pow_le_pow_right (by omega) h
  have h3 : (10 : Nat) ^ 10 = 10000000000 := rfl
  omega
def parsePart (l : List UInt8) : Option DFrame := match cutA 58 [] l with
  | [a, b] => (parseU b).map fun (n : Nat) => (⟨⟨a.toArray⟩, (n : Int)⟩ : DFrame)
  | _ => none
theorem part_cut (l : List UInt8) : parsePart l = (parseU (Lib.cut l [58]).2.1).map fun (n : Nat) => (⟨⟨(Lib.cut l [58]).1.toArray⟩, (n : Int)⟩ : DFrame) := by
  by_cases hc : (58 : UInt8) ∈ l
  · obtain ⟨x, y, rfl, hx⟩ := List.eq_append_cons_of_mem hc
    have hi := idx_at (y := y) hx
    have e1 : (Lib.cut (x ++ 58 :: y) [58]).1 = x := by
      unfold Lib.cut
      rw [hi, if_pos (by omega)]
      simp
    have e2 : (Lib.cut (x ++ 58 :: y) [58]).2.1 = y := by
      unfold Lib.cut
      rw [hi, if_pos (by omega)]
      simp only [Int.toNat_natCast, List.length_cons, List.length_nil]
      rw [show x.length + (0 + 1) = (x ++ [58]).length by simp, show x ++ 58 :: y = (x ++ [58]) ++ y by simp, List.drop_left]
    rw [e1, e2]
    unfold parsePart
    rw [cutA_at hx, List.nil_append]
    by_cases hy : (58 : UInt8) ∈ y
    · obtain ⟨u, v, rfl, hu⟩ := List.eq_append_cons_of_mem hy
      have hn : parseU (u ++ 58 :: v) = none := parseU_dig (k := u.length) (b := 58) (by simp) (by decide)
      rw [cutA_at hu, hn]
      cases hv : cutA 58 [] v with
      | nil =>
        exfalso
        by_cases hv2 : (58 : UInt8) ∈ v
        · obtain ⟨s, t, rfl, hs⟩ := List.eq_append_cons_of_mem hv2
          rw [cutA_at hs] at hv
          cases hv
        · rw [cutA_no hv2] at hv
          cases hv
      | cons h t => rfl
    · rw [cutA_no hy]
      rfl
  · have hi := idx_no hc
    have e2 : (Lib.cut l [58]).2.1 = [] := by
      unfold Lib.cut
      rw [hi, if_neg (by omega)]
    rw [e2, parseU_nil]
    unfold parsePart
    rw [cutA_no hc]
    rfl
def parseL : List (List UInt8) → List DFrame → Option (List DFrame)
  | [], acc => some acc
  | p :: ps, acc => match parsePart p with
    | some f => parseL ps (acc ++ [f])
    | none => none
theorem parseL_some {p : List UInt8} {ps : List (List UInt8)} {acc : List DFrame} {f : DFrame} (h : parsePart p = some f) : parseL (p :: ps) acc = parseL ps (acc ++ [f]) := by rw [parseL, h]
theorem parseL_none {p : List UInt8} {ps : List (List UInt8)} {acc : List DFrame} (h : parsePart p = none) : parseL (p :: ps) acc = none := by rw [parseL, h]
def parseF (s : ByteArray) : Option (List DFrame) := match parseL (cutA 59 [] s.data.toList) [] with
  | some fs => if s.size = 0 ∨ fmtF fs ≠ s then none else some fs
  | none => none
theorem parseL_len : ∀ {ps : List (List UInt8)} {acc fs : List DFrame}, parseL ps acc = some fs → fs.length = acc.length + ps.length
  | [], acc, fs, h => by simp only [parseL, Option.some.injEq] at h; subst h; simp
  | p :: ps, acc, fs, h => by
    rw [parseL] at h
    split at h
    · have := parseL_len h
      simp only [List.length_append, List.length_cons, List.length_nil] at this ⊢
      omega
    · cases h
theorem parseF_fmt {s : ByteArray} {fs : List DFrame} (h : parseF s = some fs) : fmtF fs = s ∧ s.size ≠ 0 := by
  unfold parseF at h
  split at h
  · split at h
    · cases h
    · rename_i k
      simp only [Option.some.injEq] at h
      subst h
      exact ⟨Decidable.byContradiction fun e => k (.inr e), fun e => k (.inl e)⟩
  · cases h
theorem parseF_len {s : ByteArray} {fs : List DFrame} (h : parseF s = some fs) : fs.length ≤ s.size + 1 := by
  unfold parseF at h
  split at h
  · rename_i fs' hp
    split at h
    · cases h
    · simp only [Option.some.injEq] at h
      subst h
      have h1 := parseL_len hp
      have h2 := cutA_len (c := 59) (l := s.data.toList) (cur := [])
      rw [dlen] at h2
      simp only [List.length_nil] at h1
      omega
  · cases h
end Go.Proofs.YtdlkoffandhclaaGreatDoor
