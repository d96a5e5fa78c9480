/-
  FMT: FormatInt, FormatFrames of the program and of the reference; strings.Join on a list of the call's own.
-/
import Derived.Test.YtcomafmiclkmhaaGreatDoorStacks
import Derived.Test.YtcomafmiclkmhaaGreatDoorFmtInt
import Derived.Test.YtcomafmiclkmhaaGreatDoorBox4
import Derived.Test.YtcomafmiclkmhaaGreatDoorRing
import Derived.Test.YtcomafmiclkmhaaGreatDoorShelf
import Derived.Test.YtcomafmiclkmhaaGreatDoorBytes
import Derived.Deep.RegionHeld3
import Derived.Deep.RegionLaw
import Derived.Lib.ItoaNum
import Derived.Lib.Join
set_option linter.unusedVariables false
set_option linter.unusedSimpArgs false
namespace Go.Proofs.YtcomafmiclkmhaaGreatDoor
open Go.RowKit
theorem fmtInt_i (x : Int) (h0 : 0 ≤ x) (h1 : x < 100) (w : World) : Calls Tryz.prog 59 #[.int .i64 x] w fun e w' => e = .returned (.string ⟨(Lib.decDigits x.toNat).toArray⟩) ∧ w = w' := by
  obtain ⟨n, rfl⟩ := Int.eq_ofNat_of_zero_le h0
  rw [Int.toNat_natCast]
  go_enter Tryz.func59, Tryz.ntmps59
  go_wp2_with (go_at_call 84; go_must ((with_reducible refine (Tryz.strconv_Itoa_small n (by omega) _).mono ?_)); rintro e w1 ⟨rfl, rfl⟩)
  go_ret
  exact ⟨rfl, rfl⟩
def frameB (f : DFrame) : List UInt8 := f.Name.data.toList ++ 58 :: Lib.decDigits f.Line.toNat
def joinF (l : List DFrame) : List UInt8 := Lib.join (l.map frameB) [59]
def fmtF (l : List DFrame) : ByteArray := if l.all frameOk then ⟨(joinF l).toArray⟩ else ⟨#[]⟩
theorem joinTail_snoc (sep x : List UInt8) (r : List (List UInt8)) : Lib.joinTail sep (r ++ [x]) = Lib.joinTail sep r ++ (sep ++ x) := by
  unfold Lib.joinTail
  rw [List.map_append, List.flatten_append]
  simp
theorem joinF_snoc {l : List DFrame} {j : Nat} {f : DFrame} (h : l[j]? = some f) : joinF (l.take (j + 1)) = if j = 0 then frameB f else joinF (l.take j) ++ (59 :: frameB f) := by
  unfold joinF
  rw [take_snoc h, List.map_append]
  split
  · rename_i h0
    subst h0
    simp [Lib.join_one]
  · rename_i h0
    cases hl : l.take j with
    | nil =>
      have hj := (List.getElem?_eq_some_iff.1 h).1
      have := congrArg List.length hl
      rw [List.length_take, List.length_nil] at this
      omega
    | cons y ys =>
      rw [List.map_cons, List.cons_append, Lib.join_cons, Lib.join_cons]
      show frameB y ++ Lib.joinTail [59] (List.map frameB ys ++ [frameB f]) = _
      rw [joinTail_snoc, List.append_assoc]
      rfl
theorem frame_bd {f : DFrame} (h : frameOk f = true) : f.Name.size ≤ 8 ∧ 0 ≤ f.Line ∧ f.Line ≤ 59 := by
  simp only [frameOk, Bool.and_eq_true, btw_iff] at h
  exact ⟨(nameOk_size h.1).2, h.2⟩
theorem dec_len {n : Nat} (h : n < 100) : (Lib.decDigits n).length ≤ 2 := by
  by_cases h1 : n < 10
  · rw [dec_lo h1]; simp
  · rw [dec_hi (by omega), dec_lo (by omega)]; simp
theorem dlen (s : ByteArray) : s.data.toList.length = s.size := by rw [Array.length_toList]; rfl
theorem frameB_len {f : DFrame} (h : frameOk f = true) : (frameB f).length ≤ 11 := by
  have h1 := frame_bd h
  have h2 := dec_len (n := f.Line.toNat) (by omega)
  unfold frameB
  rw [List.length_append, List.length_cons, dlen]
  omega
theorem szl (l : List UInt8) : (⟨l.toArray⟩ : ByteArray).size = l.length := by
  show l.toArray.size = _
  simp
theorem dstr (s : ByteArray) : (⟨s.data.toList.toArray⟩ : ByteArray) = s := by simp
theorem app_l (acc : List UInt8) (s : ByteArray) : (⟨acc.toArray⟩ : ByteArray) ++ s = ⟨(acc ++ s.data.toList).toArray⟩ := by rw [← bytes_app, dstr]
set_option maxRecDepth 100000 in
set_option maxHeartbeats 2000000 in
theorem fmtF_s {l : List DFrame} {w : World} {A : Option Addr} {c : Nat} (hx : (tFrame.sl 46).R w w.heap.size [.slice A l.length c] l) (hn : l.length ≤ 1099511627776) :
    Calls Tryz.prog 48 #[.slice A l.length c] w fun e w' => e = .returned (.string (fmtF l)) ∧ Gro w w' := by
  obtain ⟨_, _, hv, h2, h3⟩ := sl_at hx
  injection hv with hA _ hc
  subst hA hc
  go_enter Tryz.func48, Tryz.ntmps48
  go_wp2_with (fail)
  go_loopw [3, 4] (fun a b wr => ∃ (j : Nat) (acc : List UInt8), a = .string ⟨acc.toArray⟩ ∧ b = .int .i64 j ∧ j ≤ l.length ∧ acc.length ≤ 12 * j ∧ Hid (acc = joinF (l.take j)) ∧ Hid ((l.take j).all frameOk = true) ∧ Hid (Gro w wr)) (fun _ b _ => l.length - (intOf b).toNat)
  case atStart => exact ⟨0, [], rfl, rfl, by omega, by simp, Lib.hid rfl, Lib.hid rfl, Lib.hid (by repeat (first | with_reducible exact Gro.refl _ | with_reducible exact Gro.refl_drew _ _ _ | with_reducible exact Gro.refl_drewN _ _ _ _ | assumption | with_reducible apply Gro.more | with_reducible apply Gro.alloc | with_reducible apply Gro.drew | with_reducible apply Gro.drewN))⟩
  case round =>
    obtain ⟨j, acc, rfl, rfl, hj, hacc, HT, HA, hG⟩ := hrel
    obtain ⟨os, d, rfl⟩ := hG.out
    clear hG
    by_cases hlt : j < l.length
    · obtain ⟨g, off, f, rfl, hgb, hfk, hf0, hf1, bf0, bf1⟩ := atFrame hx hlt
      have HX := Lib.hid hfk
      have HXL := Lib.hid hx
      clear hfk hx
      cases hn1 : nameOk f.Name
      · have HN := Lib.hid hn1
        have HF := Lib.hid (show fmtF l = ⟨#[]⟩ from by unfold fmtF; rw [all_not HX.out (by simp [frameOk, hn1])]; rfl)
        clear hn1
        go_wp2_with (go_at_call 75; go_must ((with_reducible refine (nameOk_s _ _ bf0).mono ?_); rw [HN.out]); rintro e w1 ⟨rfl, rfl⟩)
        go_ret
        exact ⟨ret_str HF.out.symm, (by repeat (first | with_reducible exact Gro.refl _ | with_reducible exact Gro.refl_drew _ _ _ | with_reducible exact Gro.refl_drewN _ _ _ _ | assumption | with_reducible apply Gro.more | with_reducible apply Gro.alloc | with_reducible apply Gro.drew | with_reducible apply Gro.drewN))⟩
      · have HN := Lib.hid hn1
        cases hb1 : btw f.Line 0 59
        · have HB := Lib.hid hb1
          have HF := Lib.hid (show fmtF l = ⟨#[]⟩ from by unfold fmtF; rw [all_not HX.out (by simp [frameOk, hn1, hb1])]; rfl)
          clear hn1 hb1
          go_wp2_with (first | (go_at_call 75; go_must ((with_reducible refine (nameOk_s _ _ bf0).mono ?_); rw [HN.out]); rintro e w1 ⟨rfl, rfl⟩) | (go_at_call 47; go_must ((with_reducible refine (in_s _ _ _ _).mono ?_); rw [HB.out]); rintro e w1 ⟨rfl, rfl⟩))
          go_ret
          exact ⟨ret_str HF.out.symm, (by repeat (first | with_reducible exact Gro.refl _ | with_reducible exact Gro.refl_drew _ _ _ | with_reducible exact Gro.refl_drewN _ _ _ _ | assumption | with_reducible apply Gro.more | with_reducible apply Gro.alloc | with_reducible apply Gro.drew | with_reducible apply Gro.drewN))⟩
        · have HB := Lib.hid hb1
          have HO := Lib.hid (show frameOk f = true from by simp [frameOk, hn1, hb1])
          obtain ⟨hs8, hl1, hl2⟩ := frame_bd HO.out
          have hfl := frameB_len HO.out
          have hdl := dec_len (n := f.Line.toNat) (by omega)
          have HJ := Lib.hid (joinF_snoc HX.out)
          clear hn1 hb1
          by_cases hj0 : j = 0
          · have hj1 : ¬ 0 < j := by omega
            have hacc0 : acc.length ≤ 0 := by omega
            have HT0 := Lib.hid (show acc = [] from List.eq_nil_of_length_eq_zero (by omega))
            have Hj0 := Lib.hid hj0
            clear hj0
            have hz1 : (⟨acc.toArray⟩ : ByteArray).size + (⟨#[59]⟩ : ByteArray).size ≤ 9223372036854775807 := by rw [szl acc]; have : (⟨#[59]⟩ : ByteArray).size = 1 := rfl; omega
            have ke : (⟨acc.toArray⟩ : ByteArray) ++ ⟨#[59]⟩ = ⟨(acc ++ [59]).toArray⟩ := bytes_app acc [59]
            have k1 := fun w => run_string_add_sum (P := Tryz.prog) w ⟨acc.toArray⟩ f.Name (by rw [szl acc]; (try simp only [List.length_append, List.length_cons, List.length_nil]); omega)
            have k2 := fun w => run_string_add_sum (P := Tryz.prog) w (⟨acc.toArray⟩ ++ f.Name) ⟨#[58]⟩ (by rw [ByteArray.size_append, szl acc]; have : (⟨#[58]⟩ : ByteArray).size = 1 := rfl; (try simp only [List.length_append, List.length_cons, List.length_nil]); omega)
            have k3 := fun w => run_string_add_sum (P := Tryz.prog) w (⟨acc.toArray⟩ ++ f.Name ++ ⟨#[58]⟩) ⟨(Lib.decDigits f.Line.toNat).toArray⟩ (by rw [ByteArray.size_append, ByteArray.size_append, szl acc, szl (Lib.decDigits f.Line.toNat)]; have : (⟨#[58]⟩ : ByteArray).size = 1 := rfl; (try simp only [List.length_append, List.length_cons, List.length_nil]); omega)
            go_wp2_with (first | (go_at_call 75; go_must ((with_reducible refine (nameOk_s _ _ bf0).mono ?_); rw [HN.out]); rintro e w1 ⟨rfl, rfl⟩) | (go_at_call 47; go_must ((with_reducible refine (in_s _ _ _ _).mono ?_); rw [HB.out]); rintro e w1 ⟨rfl, rfl⟩))
            go_region_held3 (fun w' => w'.cell? ⟨g, off + j * 2, none⟩ = some (.string f.Name) ∧ w'.cell? ⟨g, off + j * 2 + 1, none⟩ = some (.int .i64 f.Line)) ((repeat' apply And.intro) <;> (first | ((repeat (first | assumption | with_reducible refine gro_keeps ?_ _ _ | with_reducible refine alloc_keeps ?_ _ | with_reducible refine drew_keeps ?_)); done) | (simp [go_sem]; done))) (first | (go_at_call 76; refine (fmtInt_s _ hl1 (by omega) _).mono ?_; rintro e w3 ⟨rfl, os3, d3, rfl⟩))
            go_wp2
            go_roundw
            case rel => exact ⟨j + 1, acc ++ frameB f, val_str (by rw [app_l, app_l, app_l]; simp [frameB, List.append_assoc]), by go_num, by omega, by simp only [List.length_append, List.length_cons, List.length_nil]; omega, Lib.hid (by rw [HJ.out, if_pos Hj0.out, HT0.out]; rfl), Lib.hid (all_snoc HX.out HA.out HO.out), Lib.hid (by repeat (first | with_reducible exact Gro.refl _ | with_reducible exact Gro.refl_drew _ _ _ | with_reducible exact Gro.refl_drewN _ _ _ _ | assumption | with_reducible apply Gro.more | with_reducible apply Gro.alloc | with_reducible apply Gro.drew | with_reducible apply Gro.drewN))⟩
            case measure => simp [intOf]; omega

          · have hj1 : 0 < j := by omega
            clear hj0
            have hz1 : (⟨acc.toArray⟩ : ByteArray).size + (⟨#[59]⟩ : ByteArray).size ≤ 9223372036854775807 := by rw [szl acc]; have : (⟨#[59]⟩ : ByteArray).size = 1 := rfl; omega
            have ke : (⟨acc.toArray⟩ : ByteArray) ++ ⟨#[59]⟩ = ⟨(acc ++ [59]).toArray⟩ := bytes_app acc [59]
            have k1 := fun w => run_string_add_sum (P := Tryz.prog) w ⟨(acc ++ [59]).toArray⟩ f.Name (by rw [szl (acc ++ [59])]; (try simp only [List.length_append, List.length_cons, List.length_nil]); omega)
            have k2 := fun w => run_string_add_sum (P := Tryz.prog) w (⟨(acc ++ [59]).toArray⟩ ++ f.Name) ⟨#[58]⟩ (by rw [ByteArray.size_append, szl (acc ++ [59])]; have : (⟨#[58]⟩ : ByteArray).size = 1 := rfl; (try simp only [List.length_append, List.length_cons, List.length_nil]); omega)
            have k3 := fun w => run_string_add_sum (P := Tryz.prog) w (⟨(acc ++ [59]).toArray⟩ ++ f.Name ++ ⟨#[58]⟩) ⟨(Lib.decDigits f.Line.toNat).toArray⟩ (by rw [ByteArray.size_append, ByteArray.size_append, szl (acc ++ [59]), szl (Lib.decDigits f.Line.toNat)]; have : (⟨#[58]⟩ : ByteArray).size = 1 := rfl; (try simp only [List.length_append, List.length_cons, List.length_nil]); omega)
            go_wp2_with (first | (go_at_call 75; go_must ((with_reducible refine (nameOk_s _ _ bf0).mono ?_); rw [HN.out]); rintro e w1 ⟨rfl, rfl⟩) | (go_at_call 47; go_must ((with_reducible refine (in_s _ _ _ _).mono ?_); rw [HB.out]); rintro e w1 ⟨rfl, rfl⟩))
            go_region_held3 (fun w' => w'.cell? ⟨g, off + j * 2, none⟩ = some (.string f.Name) ∧ w'.cell? ⟨g, off + j * 2 + 1, none⟩ = some (.int .i64 f.Line)) ((repeat' apply And.intro) <;> (first | ((repeat (first | assumption | with_reducible refine gro_keeps ?_ _ _ | with_reducible refine alloc_keeps ?_ _ | with_reducible refine drew_keeps ?_)); done) | (simp [go_sem]; done))) (first | (go_at_call 76; refine (fmtInt_s _ hl1 (by omega) _).mono ?_; rintro e w3 ⟨rfl, os3, d3, rfl⟩))
            go_wp2
            go_roundw
            case rel => exact ⟨j + 1, (acc ++ [59]) ++ frameB f, val_str (by rw [app_l, app_l, app_l]; simp [frameB, List.append_assoc]), by go_num, by omega, by simp only [List.length_append, List.length_cons, List.length_nil]; omega, Lib.hid (by rw [HJ.out, if_neg (by omega), HT.out]; simp), Lib.hid (all_snoc HX.out HA.out HO.out), Lib.hid (by repeat (first | with_reducible exact Gro.refl _ | with_reducible exact Gro.refl_drew _ _ _ | with_reducible exact Gro.refl_drewN _ _ _ _ | assumption | with_reducible apply Gro.more | with_reducible apply Gro.alloc | with_reducible apply Gro.drew | with_reducible apply Gro.drewN))⟩
            case measure => simp [intOf]; omega

    · have hje : j = l.length := by omega
      subst hje
      have HF := Lib.hid (show fmtF l = ⟨acc.toArray⟩ from by
        have h := HA.out
        have h2 := HT.out
        rw [List.take_length] at h h2
        unfold fmtF
        rw [h, if_pos rfl, h2])
      go_wp2
      go_ret
      exact ⟨ret_str HF.out.symm, (by repeat (first | with_reducible exact Gro.refl _ | with_reducible exact Gro.refl_drew _ _ _ | with_reducible exact Gro.refl_drewN _ _ _ _ | assumption | with_reducible apply Gro.more | with_reducible apply Gro.alloc | with_reducible apply Gro.drew | with_reducible apply Gro.drewN))⟩
theorem joinTail_len : ∀ (l : List DFrame), l.all frameOk = true → (Lib.joinTail [59] (l.map frameB)).length ≤ 12 * l.length
  | [], _ => by simp [Lib.joinTail]
  | f :: l, h => by
    simp only [List.all_cons, Bool.and_eq_true] at h
    have h1 := frameB_len h.1
    have h2 := joinTail_len l h.2
    have e : Lib.joinTail [59] ((f :: l).map frameB) = ([59] ++ frameB f) ++ Lib.joinTail [59] (l.map frameB) := rfl
    rw [e]
    simp only [List.length_append, List.length_cons, List.length_nil]
    omega
theorem joinF_len {l : List DFrame} (h : l.all frameOk = true) : (joinF l).length ≤ 12 * l.length := by
  unfold joinF
  cases l with
  | nil => simp [Lib.join_nil]
  | cons f l =>
    simp only [List.all_cons, Bool.and_eq_true] at h
    have h1 := frameB_len h.1
    have h2 := joinTail_len l h.2
    rw [List.map_cons, Lib.join_cons]
    simp only [List.length_append, List.length_cons]
    omega
theorem join_own {xs : List ByteArray} {w : World} {A : Option Addr} {c : Nat} (hx : (strT.sl 9).R w w.heap.size [.slice A xs.length c] xs) (hn : xs.length ≤ 1099511627776) (hl : (Lib.join (xs.map (·.data.toList)) [59]).length ≤ 140737488355328) :
    Calls Tryz.prog 60 #[.slice A xs.length c, .string ⟨#[59]⟩] w fun e w' => e = .returned (.string ⟨(Lib.join (xs.map (·.data.toList)) [59]).toArray⟩) ∧ Gro w w' := by
  obtain ⟨_, _, hv, h2, h3⟩ := sl_at hx
  injection hv with hA _ hc
  subst hA hc
  rcases Nat.eq_zero_or_pos xs.length with h0 | h0
  · have : xs = [] := List.eq_nil_of_length_eq_zero h0
    subst this
    refine (Tryz.strings_Join_none _ _ _ _).mono ?_
    rintro e w' ⟨rfl, rfl⟩
    exact ⟨rfl, Gro.refl _⟩
  · obtain ⟨g, off, _, rfl, _, hc0, _⟩ := strs_at hx h0
    refine (Tryz.strings_Join g off c xs ⟨#[59]⟩ w (fun j x hj => ?_) (World.block_lt_of_cell? _ _ hc0) (by omega) h2 hl).mono ?_
    · obtain ⟨g2, off2, y, hA, hyk, hcy, _⟩ := strs_at hx (List.getElem?_eq_some_iff.1 hj).1
      simp only [Option.some.injEq, Addr.mk.injEq, and_true] at hA
      obtain ⟨rfl, rfl⟩ := hA
      rw [hyk] at hj
      cases hj
      exact hcy
    · rintro e w' ⟨rfl, hb⟩
      exact ⟨rfl, Gro.of_below hb⟩
set_option maxRecDepth 100000 in
set_option maxHeartbeats 2000000 in
theorem fmtF_i {l : List DFrame} {w : World} {A : Option Addr} {c : Nat} (hx : (tFrame.sl 46).R w w.heap.size [.slice A l.length c] l) (hn : l.length ≤ 1099511627776) :
    Calls Tryz.prog 39 #[.slice A l.length c] w fun e w' => e = .returned (.string (fmtF l)) ∧ Gro w w' := by
  obtain ⟨_, _, hv, h2, h3⟩ := sl_at hx
  injection hv with hA _ hc
  subst hA hc
  go_enter Tryz.func39, Tryz.ntmps39
  go_wp2_with (fail)
  go_loopw [3, 9] (fun a b wr => ∃ (j : Nat) (acc : List ByteArray) (B : Option Addr) (cb : Nat), a = .slice B acc.length cb ∧ b = .int .i64 j ∧ j ≤ l.length ∧ acc.length ≤ j ∧ Hid (acc = (l.take j).map fun f => ⟨(frameB f).toArray⟩) ∧ Hid ((l.take j).all frameOk = true) ∧ Hid (Gro w wr) ∧ Hid (Fresh (strT.sl 9) w wr [.slice B acc.length cb] acc)) (fun _ b _ => l.length - (intOf b).toNat)
  case atStart => exact ⟨0, [], _, 0, rfl, rfl, by omega, by simp, Lib.hid rfl, Lib.hid rfl, Lib.hid (by repeat (first | with_reducible exact Gro.refl _ | with_reducible exact Gro.refl_drew _ _ _ | with_reducible exact Gro.refl_drewN _ _ _ _ | assumption | with_reducible apply Gro.more | with_reducible apply Gro.alloc | with_reducible apply Gro.drew | with_reducible apply Gro.drewN)), Lib.hid (fresh_empty2 (by repeat (first | with_reducible exact Gro.refl _ | with_reducible exact Gro.refl_drew _ _ _ | with_reducible exact Gro.refl_drewN _ _ _ _ | assumption | with_reducible apply Gro.more | with_reducible apply Gro.alloc | with_reducible apply Gro.drew | with_reducible apply Gro.drewN)) (by repeat (first | with_reducible exact Gro.refl _ | with_reducible exact Gro.refl_drew _ _ _ | with_reducible exact Gro.refl_drewN _ _ _ _ | assumption | with_reducible apply Gro.more | with_reducible apply Gro.alloc | with_reducible apply Gro.drew | with_reducible apply Gro.drewN)) (by simp))⟩
  case round =>
    obtain ⟨j, acc, B, cb, rfl, rfl, hj, hacc, HT, HA, hG, hF⟩ := hrel
    obtain ⟨os, d, rfl⟩ := hG.out
    clear hG
    by_cases hlt : j < l.length
    · obtain ⟨g, off, f, rfl, hgb, hfk, hf0, hf1, bf0, bf1⟩ := atFrame hx hlt
      have HX := Lib.hid hfk
      have HXL := Lib.hid hx
      clear hfk hx
      cases ho1 : frameOk f
      · have HO := Lib.hid ho1
        have HF := Lib.hid (show fmtF l = ⟨#[]⟩ from by unfold fmtF; rw [all_not HX.out ho1]; rfl)
        clear ho1
        go_wp2_with (go_at_call 53; go_must ((with_reducible refine (frameOk_i (f := f) bf0).mono ?_); rw [HO.out]); rintro e w1 ⟨rfl, os1, d1, rfl⟩)
        go_ret
        exact ⟨ret_str HF.out.symm, (by repeat (first | with_reducible exact Gro.refl _ | with_reducible exact Gro.refl_drew _ _ _ | with_reducible exact Gro.refl_drewN _ _ _ _ | assumption | with_reducible apply Gro.more | with_reducible apply Gro.alloc | with_reducible apply Gro.drew | with_reducible apply Gro.drewN))⟩
      · have HO := Lib.hid ho1
        obtain ⟨hs8, hl1, hl2⟩ := frame_bd HO.out
        have hdl := dec_len (n := f.Line.toNat) (by omega)
        clear ho1
        have k1 := fun w => run_string_add_sum (P := Tryz.prog) w f.Name ⟨#[58]⟩ (by have : (⟨#[58]⟩ : ByteArray).size = 1 := rfl; omega)
        have k2 := fun w => run_string_add_sum (P := Tryz.prog) w (f.Name ++ ⟨#[58]⟩) ⟨(Lib.decDigits f.Line.toNat).toArray⟩ (by rw [ByteArray.size_append, szl (Lib.decDigits f.Line.toNat)]; have : (⟨#[58]⟩ : ByteArray).size = 1 := rfl; omega)
        have HV := Lib.hid (show f.Name ++ ⟨#[58]⟩ ++ ⟨(Lib.decDigits f.Line.toNat).toArray⟩ = (⟨(frameB f).toArray⟩ : ByteArray) from by
          refine ByteArray.ext (Array.toList_inj.1 ?_)
          simp [ByteArray.data_append, frameB])
        have hvs : (f.Name ++ ⟨#[58]⟩ ++ ⟨(Lib.decDigits f.Line.toNat).toArray⟩ : ByteArray).size ≤ 9223372036854775807 := by rw [HV.out, szl]; have := frameB_len HO.out; omega
        go_wp2_with (go_at_call 53; go_must ((with_reducible refine (frameOk_i (f := f) bf0).mono ?_); rw [HO.out]); rintro e w1 ⟨rfl, os1, d1, rfl⟩)
        go_region_law (first
          | (refine step_append_fone (W0 := w) (L := acc.length + 1) rfl (.tmp 16) (.tmp 24) el_str flat_str (hF.out.gro (by repeat (first | with_reducible exact Gro.refl _ | with_reducible exact Gro.refl_drew _ _ _ | with_reducible exact Gro.refl_drewN _ _ _ _ | assumption | with_reducible apply Gro.more | with_reducible apply Gro.alloc | with_reducible apply Gro.drew | with_reducible apply Gro.drewN))) (by repeat (first | with_reducible exact Gro.refl _ | with_reducible exact Gro.refl_drew _ _ _ | with_reducible exact Gro.refl_drewN _ _ _ _ | assumption | with_reducible apply Gro.more | with_reducible apply Gro.alloc | with_reducible apply Gro.drew | with_reducible apply Gro.drewN)) (W1 := w) (B := 0) (ec := [.string (f.Name ++ ⟨#[58]⟩ ++ ⟨(Lib.decDigits f.Line.toNat).toArray⟩)]) (y := f.Name ++ ⟨#[58]⟩ ++ ⟨(Lib.decDigits f.Line.toNat).toArray⟩) ⟨rfl, hvs⟩ rfl rfl rfl (by intro j u hu; simpa [go_sem] using hu) rfl (by omega) (by omega) ?_; intro D2 e2 os2 d2 hF2)
          | (go_simp; go_at_call 59; refine (fmtInt_i _ hl1 (by omega) _).mono ?_; rintro e w3 ⟨rfl, rfl⟩))
        all_goals go_wp2
        all_goals go_roundw
        all_goals first
          | (case rel => exact ⟨j + 1, acc ++ [⟨(frameB f).toArray⟩], D2, e2, by simp, by go_num, by omega, by simp; omega, Lib.hid (by rw [take_snoc HX.out, List.map_append, HT.out]; rfl), Lib.hid (all_snoc HX.out HA.out HO.out), Lib.hid (by repeat (first | with_reducible exact Gro.refl _ | with_reducible exact Gro.refl_drew _ _ _ | with_reducible exact Gro.refl_drewN _ _ _ _ | assumption | with_reducible apply Gro.more | with_reducible apply Gro.alloc | with_reducible apply Gro.drew | with_reducible apply Gro.drewN)), Lib.hid (by rw [← HV.out]; simpa using hF2)⟩)
          | (simp [intOf]; omega)
    · have hje : j = l.length := by omega
      subst hje
      have HF := Lib.hid (show fmtF l = ⟨(Lib.join (acc.map (·.data.toList)) [59]).toArray⟩ from by
        have h := HA.out
        have h2 := HT.out
        rw [List.take_length] at h h2
        unfold fmtF
        rw [h, if_pos rfl, h2, List.map_map]
        rfl)
      have HJL := Lib.hid (show (Lib.join (acc.map (·.data.toList)) [59]).length ≤ 12 * l.length from by
        have h := HA.out
        have h2 := HT.out
        rw [List.take_length] at h h2
        rw [h2, List.map_map]
        exact joinF_len h)
      go_wp2_with (fail)
      refine (join_own hF.out.read (by omega) (by have := HJL.out; omega)).mono ?_
      rintro e w2 ⟨rfl, os2, d2, rfl⟩
      go_wp2_with (fail)
      go_ret
      exact ⟨ret_str HF.out.symm, (by repeat (first | with_reducible exact Gro.refl _ | with_reducible exact Gro.refl_drew _ _ _ | with_reducible exact Gro.refl_drewN _ _ _ _ | assumption | with_reducible apply Gro.more | with_reducible apply Gro.alloc | with_reducible apply Gro.drew | with_reducible apply Gro.drewN))⟩
end Go.Proofs.YtcomafmiclkmhaaGreatDoor
