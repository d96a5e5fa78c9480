/-
  DBG: an image's number; whether a debug file fits an image: both sides.
-/
import Derived.Test.YtbhobjepjaeffaaFnAgent
import Derived.Test.YtbhobjepjaeffaaOp2
import Derived.Test.YtbhobjepjaeffaaBoxN
import Derived.BigQuiet
import Derived.Deep.RegionHeld3
import Derived.Deep.Cut
import Derived.Deep.RegionLaw
import Derived.Test.YtbhobjepjaeffaaRegT2
set_option linter.unusedVariables false
set_option linter.unusedSimpArgs false
namespace Go.Proofs.Ytbhobjepjaeffaa
open Go.RowKit
set_option maxRecDepth 100000 in
set_option maxHeartbeats 2000000 in
theorem equalSym {xs ys : List DSymbol} {w : World} {v u : Value} (hx : (tSymbol.sl 118).R w w.heap.size [v] xs) (hy : (tSymbol.sl 118).R w w.heap.size [u] ys) :
    Calls Try.prog 99 #[v, u] w fun e w' => e = .returned (.bool (decide (xs = ys))) ∧ Gro w w' := by
  obtain ⟨A, c, rfl, h1, h2⟩ := sl_at hx
  obtain ⟨A', c', rfl, k1, k2⟩ := sl_at hy
  by_cases hl : xs.length = ys.length
  · have hne : ((xs.length : Int) != (ys.length : Int)) = false := by simp [hl]
    have HL := Lib.hid hl
    clear hl
    go_enter Try.func99, Try.ntmps99
    go_wp2_with (fail)
    go_loopw [13] (fun i wr => ∃ k : Nat, k ≤ xs.length ∧ i = .int .i64 k ∧ Hid (Gro w wr) ∧ Hid (xs.take k = ys.take k)) (fun i _ => xs.length - (intOf i).toNat)
    case atStart => exact ⟨0, Nat.zero_le _, rfl, Gro.refl _, Lib.hid (by simp)⟩
    case round =>
      obtain ⟨k, hk, rfl, hG, HT⟩ := hrel
      obtain ⟨os, d, rfl⟩ := hG.out
      clear hG
      by_cases hlt : k < xs.length
      · have hlt2 : k < ys.length := by rw [← HL.out]; exact hlt
        obtain ⟨g, off, x, rfl, hgb, hxk, hx0, hx1, hx2, bx0, bx1, bx2⟩ := atSymbol hx hlt
        obtain ⟨g', off', y, rfl, hgb', hyk, hy0, hy1, hy2, by0, by1, by2⟩ := atSymbol hy hlt2
        have HX := Lib.hid hxk
        have HY := Lib.hid hyk
        clear hxk hyk hx hy
        have hki : (k : Int) < (xs.length : Int) := by omega
        have hki2 : (k : Int) < (ys.length : Int) := by omega
        have q0 := gro_keeps hx0 os d
        have q1 := gro_keeps hx1 os d
        have q2 := gro_keeps hx2 os d
        have r0 := gro_keeps hy0 os d
        have r1 := gro_keeps hy1 os d
        have r2 := gro_keeps hy2 os d
        clear hx0 hx1 hx2 hy0 hy1 hy2
        by_cases hs : x.Name = y.Name
        · have hsb : (x.Name.toList == y.Name.toList) = true := by rw [str_eqb]; simp [hs]
          by_cases hc : x.Start = y.Start
          · have hcb : (x.Start == y.Start) = true := by simp [hc]
            by_cases hz : x.Size = y.Size
            · have hzb : (x.Size == y.Size) = true := by simp [hz]
              have HXY := Lib.hid (show x = y from by cases x; cases y; simp only at hs hc hz; rw [hs, hc, hz])
              clear hs hc hz
              go_wp2_with (fail)
              go_quiet (fail)
              go_wp2_with (fail)
              go_roundw
              case rel => exact ⟨k + 1, by omega, by go_num, Lib.hid (by repeat (first | with_reducible exact Gro.refl _ | with_reducible exact Gro.refl_drew _ _ _ | with_reducible exact Gro.refl_drewN _ _ _ _ | assumption | with_reducible apply Gro.more | with_reducible apply Gro.alloc | with_reducible apply Gro.drew | with_reducible apply Gro.drewN)), Lib.hid (by rw [take_snoc HX.out, take_snoc HY.out, HT.out, HXY.out])⟩
              case measure => simp [intOf]; omega
            · have hzb : (x.Size == y.Size) = false := by simp [hz]
              have HXY := Lib.hid (show x ≠ y from by rintro rfl; exact hz rfl)
              clear hs hc hz
              go_wp2_with (fail)
              go_quiet (fail)
              go_wp2_with (fail)
              go_ret
              refine ⟨ret_bool ?_, (by repeat (first | with_reducible exact Gro.refl _ | with_reducible exact Gro.refl_drew _ _ _ | with_reducible exact Gro.refl_drewN _ _ _ _ | assumption | with_reducible apply Gro.more | with_reducible apply Gro.alloc | with_reducible apply Gro.drew | with_reducible apply Gro.drewN))⟩
              symm
              simp only [decide_eq_false_iff_not]
              rintro rfl
              have h9 := HX.out.symm.trans HY.out
              simp at h9
              exact HXY.out h9
          · have hcb : (x.Start == y.Start) = false := by simp [hc]
            have HXY := Lib.hid (show x ≠ y from by rintro rfl; exact hc rfl)
            clear hs hc
            go_wp2_with (fail)
            go_quiet (fail)
            go_wp2_with (fail)
            go_ret
            refine ⟨ret_bool ?_, (by repeat (first | with_reducible exact Gro.refl _ | with_reducible exact Gro.refl_drew _ _ _ | with_reducible exact Gro.refl_drewN _ _ _ _ | assumption | with_reducible apply Gro.more | with_reducible apply Gro.alloc | with_reducible apply Gro.drew | with_reducible apply Gro.drewN))⟩
            symm
            simp only [decide_eq_false_iff_not]
            rintro rfl
            have h9 := HX.out.symm.trans HY.out
            simp at h9
            exact HXY.out h9
        · have hsb : (x.Name.toList == y.Name.toList) = false := by rw [str_eqb]; simp [hs]
          have HXY := Lib.hid (show x ≠ y from by rintro rfl; exact hs rfl)
          clear hs
          go_wp2_with (fail)
          go_quiet (fail)
          go_wp2_with (fail)
          go_ret
          refine ⟨ret_bool ?_, (by repeat (first | with_reducible exact Gro.refl _ | with_reducible exact Gro.refl_drew _ _ _ | with_reducible exact Gro.refl_drewN _ _ _ _ | assumption | with_reducible apply Gro.more | with_reducible apply Gro.alloc | with_reducible apply Gro.drew | with_reducible apply Gro.drewN))⟩
          symm
          simp only [decide_eq_false_iff_not]
          rintro rfl
          have h9 := HX.out.symm.trans HY.out
          simp at h9
          exact HXY.out h9
      · have hki : ¬ ((k : Int) < (xs.length : Int)) := by omega
        go_wp2_with (fail)
        go_ret
        refine ⟨ret_bool ?_, (by repeat (first | with_reducible exact Gro.refl _ | with_reducible exact Gro.refl_drew _ _ _ | with_reducible exact Gro.refl_drewN _ _ _ _ | assumption | with_reducible apply Gro.more | with_reducible apply Gro.alloc | with_reducible apply Gro.drew | with_reducible apply Gro.drewN))⟩
        have : k = xs.length := by omega
        subst this
        have h1 := HT.out
        rw [HL.out] at h1
        simp only [List.take_length] at h1
        rw [← HL.out] at h1
        simp at h1
        simp [h1]
  · have hne : ((xs.length : Int) != (ys.length : Int)) = true := by simp; omega
    go_enter Try.func99, Try.ntmps99
    go_wp2_with (fail)
    go_ret
    exact ⟨ret_bool (by symm; simp only [decide_eq_false_iff_not]; rintro rfl; exact hl rfl), (by repeat (first | with_reducible exact Gro.refl _ | with_reducible exact Gro.refl_drew _ _ _ | with_reducible exact Gro.refl_drewN _ _ _ _ | assumption | with_reducible apply Gro.more | with_reducible apply Gro.alloc | with_reducible apply Gro.drew | with_reducible apply Gro.drewN))⟩
/-- an image's number: its first k bytes -/
def idN (s : ByteArray) : Nat → Int
  | 0 => 7
  | k + 1 => (idN s k * 257 + byteN s k + 1) % 1000000007
theorem idN_bd (s : ByteArray) : ∀ k, 0 ≤ idN s k ∧ idN s k ≤ 1000000006
  | 0 => ⟨by show (0 : Int) ≤ 7; omega, by show (7 : Int) ≤ 1000000006; omega⟩
  | k + 1 => ⟨by unfold idN; omega, by unfold idN; omega⟩
set_option maxRecDepth 100000 in
set_option maxHeartbeats 2000000 in
theorem imageId_i {i : DImage} {w : World} {A : Option Addr} {c : Nat} (hs : i.Code.size ≤ 1099511627776) : Calls Try.prog 98 #[.agg #[.string i.Code, .slice A i.Symbols.length c]] w fun r w' => r = .returned (.int .i64 (idN i.Code i.Code.size)) ∧ Gro w w' := by
  have hG0 : Gro w (w.alloc (.cells #[.string i.Code, .slice A i.Symbols.length c] 96)) := (by repeat (first | with_reducible exact Gro.refl _ | with_reducible exact Gro.refl_drew _ _ _ | with_reducible exact Gro.refl_drewN _ _ _ _ | assumption | with_reducible apply Gro.more | with_reducible apply Gro.alloc | with_reducible apply Gro.drew | with_reducible apply Gro.drewN))
  have eb := heap_alloc_new w (.cells #[.string i.Code, .slice A i.Symbols.length c] 96)
  obtain ⟨g, hg⟩ : ∃ g, w.heap.size = g := ⟨_, rfl⟩
  go_enter Try.func98, Try.ntmps98
  go_wp2
  rw [hg] at eb
  generalize w.alloc (.cells #[.string i.Code, .slice A i.Symbols.length c] 96) = Y at hG0 eb ⊢
  obtain ⟨y0, y1, yf0, yf1, yl⟩ := box2 eb
  obtain ⟨s, hs'⟩ : ∃ s, i.Code = s := ⟨_, rfl⟩
  rw [hs'] at y0 hs ⊢
  have HCS := Lib.hid hs'
  clear hs' eb
  go_loopw [3, 4] (fun a b wr => ∃ k : Nat, a = .int .i64 (idN s k) ∧ b = .int .i64 k ∧ k ≤ s.size ∧ wr = Y) (fun _ b _ => s.size - (intOf b).toNat)
  case atStart => exact ⟨0, rfl, rfl, Nat.zero_le _, rfl⟩
  case round =>
    obtain ⟨k, rfl, rfl, hk, rfl⟩ := hrel
    by_cases hlt : k < s.size
    · have hb := byteN_get hlt
      have hb2 : 0 ≤ (s[k].toNat : Int) ∧ (s[k].toNat : Int) ≤ 255 := by have := s[k].toNat_lt; omega
      have hbd := idN_bd s k
      obtain ⟨u, hu⟩ : ∃ u, idN s k = u := ⟨_, rfl⟩
      have hv : (u * 257 + (s[k].toNat : Int) + 1) % 1000000007 = idN s (k + 1) := by rw [idN, hb, hu]
      have hv2 : (u * 257 + (s[k].toNat : Int) + 1).tmod 1000000007 = idN s (k + 1) := by rw [Int.tmod_eq_emod_of_nonneg (by omega), hv]
      rw [hu] at hbd ⊢
      obtain ⟨v, hvv⟩ : ∃ v, idN s (k + 1) = v := ⟨_, rfl⟩
      rw [hvv] at hv hv2
      have HV := Lib.hid hvv
      clear hu hb hvv
      have hki : (k : Int) < (s.size : Int) := by omega
      go_wp2_with (fail)
      go_roundw
      case measure => (simp [intOf]; try omega)
      case rel => exact ⟨k + 1, by rw [HV.out], by go_num, by omega, trivial⟩
    · obtain rfl : k = s.size := by omega
      have hki : ¬ ((s.size : Int) < (s.size : Int)) := by omega
      go_wp2_with (fail)
      go_ret
      exact ⟨ret_int (by rw [HCS.out]), hG0⟩
set_option maxRecDepth 100000 in
set_option maxHeartbeats 2000000 in
theorem imageId_s {i : DImage} {w : World} {A : Option Addr} {c : Nat} (hs : i.Code.size ≤ 1099511627776) : Calls Try.prog 96 #[.agg #[.string i.Code, .slice A i.Symbols.length c]] w fun r w' => r = .returned (.int .i64 (idN i.Code i.Code.size)) ∧ Gro w w' := by
  have hG0 : Gro w (w.alloc (.cells #[.string i.Code, .slice A i.Symbols.length c] 96)) := (by repeat (first | with_reducible exact Gro.refl _ | with_reducible exact Gro.refl_drew _ _ _ | with_reducible exact Gro.refl_drewN _ _ _ _ | assumption | with_reducible apply Gro.more | with_reducible apply Gro.alloc | with_reducible apply Gro.drew | with_reducible apply Gro.drewN))
  have eb := heap_alloc_new w (.cells #[.string i.Code, .slice A i.Symbols.length c] 96)
  obtain ⟨g, hg⟩ : ∃ g, w.heap.size = g := ⟨_, rfl⟩
  go_enter Try.func96, Try.ntmps96
  go_wp2
  rw [hg] at eb
  generalize w.alloc (.cells #[.string i.Code, .slice A i.Symbols.length c] 96) = Y at hG0 eb ⊢
  obtain ⟨y0, y1, yf0, yf1, yl⟩ := box2 eb
  obtain ⟨s, hs'⟩ : ∃ s, i.Code = s := ⟨_, rfl⟩
  rw [hs'] at y0 hs ⊢
  have HCS := Lib.hid hs'
  clear hs' eb
  go_loopw [3, 4] (fun a b wr => ∃ k : Nat, a = .int .i64 (idN s k) ∧ b = .int .i64 k ∧ k ≤ s.size ∧ wr = Y) (fun _ b _ => s.size - (intOf b).toNat)
  case atStart => exact ⟨0, rfl, rfl, Nat.zero_le _, rfl⟩
  case round =>
    obtain ⟨k, rfl, rfl, hk, rfl⟩ := hrel
    by_cases hlt : k < s.size
    · have hb := byteN_get hlt
      have hb2 : 0 ≤ (s[k].toNat : Int) ∧ (s[k].toNat : Int) ≤ 255 := by have := s[k].toNat_lt; omega
      have hbd := idN_bd s k
      obtain ⟨u, hu⟩ : ∃ u, idN s k = u := ⟨_, rfl⟩
      have hv : (u * 257 + (s[k].toNat : Int) + 1) % 1000000007 = idN s (k + 1) := by rw [idN, hb, hu]
      have hv2 : (u * 257 + (s[k].toNat : Int) + 1).tmod 1000000007 = idN s (k + 1) := by rw [Int.tmod_eq_emod_of_nonneg (by omega), hv]
      rw [hu] at hbd ⊢
      obtain ⟨v, hvv⟩ : ∃ v, idN s (k + 1) = v := ⟨_, rfl⟩
      rw [hvv] at hv hv2
      have HV := Lib.hid hvv
      clear hu hb hvv
      have hki : (k : Int) < (s.size : Int) := by omega
      go_wp2_with (fail)
      go_roundw
      case measure => (simp [intOf]; try omega)
      case rel => exact ⟨k + 1, by rw [HV.out], by go_num, by omega, trivial⟩
    · obtain rfl : k = s.size := by omega
      have hki : ¬ ((s.size : Int) < (s.size : Int)) := by omega
      go_wp2_with (fail)
      go_ret
      exact ⟨ret_int (by rw [HCS.out]), hG0⟩
def fitsD (i : DImage) (d : DDebug) : Bool := decide (d.Id = idN i.Code i.Code.size) && decide (i.Symbols = d.Symbols)
set_option maxRecDepth 100000 in
set_option maxHeartbeats 2000000 in
theorem debugFits_i {i : DImage} {d : DDebug} {w : World} {A B0 B1 B2 B3 : Option Addr} {c e0 e1 e2 e3 : Nat} (hx : (tSymbol.sl 118).R w w.heap.size [.slice A i.Symbols.length c] i.Symbols) (hy : (tSymbol.sl 118).R w w.heap.size [.slice B0 d.Symbols.length e0] d.Symbols) (hs : i.Code.size ≤ 1099511627776) :
    Calls Try.prog 67 #[.agg #[.string i.Code, .slice A i.Symbols.length c], .agg #[.int .i64 d.Id, .slice B0 d.Symbols.length e0, .slice B1 d.Rules.length e1, .slice B2 d.Rows.length e2, .slice B3 d.Inlines.length e3]] w fun r w' => r = .returned (.bool (fitsD i d)) ∧ Gro w w' := by
  have hG0 : Gro w ((w.alloc (.cells #[.string i.Code, .slice A i.Symbols.length c] 96)).alloc (.cells #[.int .i64 d.Id, .slice B0 d.Symbols.length e0, .slice B1 d.Rules.length e1, .slice B2 d.Rows.length e2, .slice B3 d.Inlines.length e3] 101)) := (by repeat (first | with_reducible exact Gro.refl _ | with_reducible exact Gro.refl_drew _ _ _ | with_reducible exact Gro.refl_drewN _ _ _ _ | assumption | with_reducible apply Gro.more | with_reducible apply Gro.alloc | with_reducible apply Gro.drew | with_reducible apply Gro.drewN))
  have eb : ((w.alloc (.cells #[.string i.Code, .slice A i.Symbols.length c] 96)).alloc (.cells #[.int .i64 d.Id, .slice B0 d.Symbols.length e0, .slice B1 d.Rules.length e1, .slice B2 d.Rows.length e2, .slice B3 d.Inlines.length e3] 101)).heap[w.heap.size]? = some (.cells #[.string i.Code, .slice A i.Symbols.length c] 96 (0, 0)) := grow_blk (heap_alloc_new w _) (by (repeat (first | with_reducible exact Gro.refl _ | with_reducible exact Gro.refl_drew _ _ _ | with_reducible exact Gro.refl_drewN _ _ _ _ | assumption | with_reducible apply Gro.more | with_reducible apply Gro.alloc | with_reducible apply Gro.drew | with_reducible apply Gro.drewN)); done)
  have ed : ((w.alloc (.cells #[.string i.Code, .slice A i.Symbols.length c] 96)).alloc (.cells #[.int .i64 d.Id, .slice B0 d.Symbols.length e0, .slice B1 d.Rules.length e1, .slice B2 d.Rows.length e2, .slice B3 d.Inlines.length e3] 101)).heap[w.heap.size + 1]? = some (.cells #[.int .i64 d.Id, .slice B0 d.Symbols.length e0, .slice B1 d.Rules.length e1, .slice B2 d.Rows.length e2, .slice B3 d.Inlines.length e3] 101 (0, 0)) := by
    have h := heap_alloc_new (w.alloc (.cells #[.string i.Code, .slice A i.Symbols.length c] 96)) (.cells #[.int .i64 d.Id, .slice B0 d.Symbols.length e0, .slice B1 d.Rules.length e1, .slice B2 d.Rows.length e2, .slice B3 d.Inlines.length e3] 101)
    rw [World.size_alloc] at h
    exact h
  have kx := Ty.up _ hx hG0
  have ky := Ty.up _ hy hG0
  obtain ⟨g, hg⟩ : ∃ g, w.heap.size = g := ⟨_, rfl⟩
  obtain ⟨u, hu⟩ : ∃ u, idN i.Code i.Code.size = u := ⟨_, rfl⟩
  have HU := Lib.hid hu
  have HF := Lib.hid (show fitsD i d = (decide (d.Id = u) && decide (i.Symbols = d.Symbols)) from by unfold fitsD; rw [hu])
  clear hu
  go_enter Try.func67, Try.ntmps67
  go_upto_region 1 with (fail)
  rw [hg] at eb ed
  generalize ((w.alloc (.cells #[.string i.Code, .slice A i.Symbols.length c] 96)).alloc (.cells #[.int .i64 d.Id, .slice B0 d.Symbols.length e0, .slice B1 d.Rules.length e1, .slice B2 d.Rows.length e2, .slice B3 d.Inlines.length e3] 101)) = Y at hG0 eb ed kx ky ⊢
  clear hx hy
  obtain ⟨y0, y1, yf0, yf1, yl⟩ := box2 eb
  obtain ⟨z0, z1, z2, z3, z4, zf, zl⟩ := row5 ed
  by_cases hid : d.Id = u
  · have hq : (d.Id == u) = true := by simp [hid]
    have hq2 : decide (d.Id = u) = true := by simp [hid]
    have HF2 := Lib.hid (show fitsD i d = decide (i.Symbols = d.Symbols) from by rw [HF.out, hq2, Bool.true_and])
    clear hid hq2
    go_region_held3 (fun w' => w'.cell? ⟨g, 0, none⟩ = some (.string i.Code) ∧ w'.cell? ⟨g, 1, none⟩ = some (.slice A i.Symbols.length c) ∧ w'.cell? ⟨g + 1, 0, none⟩ = some (.int .i64 d.Id) ∧ w'.cell? ⟨g + 1, 1, none⟩ = some (.slice B0 d.Symbols.length e0)) ((repeat' apply And.intro) <;> (first | ((repeat (first | assumption | with_reducible refine gro_keeps ?_ _ _ | with_reducible refine alloc_keeps ?_ _ | with_reducible refine drew_keeps ?_)); done) | (simp [go_sem]; done))) (first
      | (go_at_call 98; (with_reducible refine (imageId_i (i := i) hs).mono ?_); rw [HU.out]; rintro e w1 ⟨rfl, os1, d1, rfl⟩)
      | (go_at_call 99; (with_reducible refine (equalSym (xs := i.Symbols) (ys := d.Symbols) (Ty.up _ kx (by repeat (first | with_reducible exact Gro.refl _ | with_reducible exact Gro.refl_drew _ _ _ | with_reducible exact Gro.refl_drewN _ _ _ _ | assumption | with_reducible apply Gro.more | with_reducible apply Gro.alloc | with_reducible apply Gro.drew | with_reducible apply Gro.drewN))) (Ty.up _ ky (by repeat (first | with_reducible exact Gro.refl _ | with_reducible exact Gro.refl_drew _ _ _ | with_reducible exact Gro.refl_drewN _ _ _ _ | assumption | with_reducible apply Gro.more | with_reducible apply Gro.alloc | with_reducible apply Gro.drew | with_reducible apply Gro.drewN)))).mono ?_); rintro e w2 ⟨rfl, os2, d2, rfl⟩))
    go_wp2_with (fail)
    go_ret
    exact ⟨ret_bool HF2.out.symm, hG0.trans (by repeat (first | with_reducible exact Gro.refl _ | with_reducible exact Gro.refl_drew _ _ _ | with_reducible exact Gro.refl_drewN _ _ _ _ | assumption | with_reducible apply Gro.more | with_reducible apply Gro.alloc | with_reducible apply Gro.drew | with_reducible apply Gro.drewN))⟩
  · have hq : (d.Id == u) = false := by simp [hid]
    have HF2 := Lib.hid (show fitsD i d = false from by rw [HF.out]; simp [hid])
    clear hid
    first | (go_region_law (first | (go_simp; go_at_call 98; refine (imageId_i (i := i) hs).mono ?_; rw [HU.out]; rintro e w1 ⟨rfl, os1, d1, rfl⟩))) | fail
    all_goals
      go_wp2_with (fail)
      go_ret
      exact ⟨ret_bool HF2.out.symm, hG0.trans (by repeat (first | with_reducible exact Gro.refl _ | with_reducible exact Gro.refl_drew _ _ _ | with_reducible exact Gro.refl_drewN _ _ _ _ | assumption | with_reducible apply Gro.more | with_reducible apply Gro.alloc | with_reducible apply Gro.drew | with_reducible apply Gro.drewN))⟩
set_option maxRecDepth 100000 in
set_option maxHeartbeats 2000000 in
theorem debugFits_s {i : DImage} {d : DDebug} {w : World} {A B0 B1 B2 B3 : Option Addr} {c e0 e1 e2 e3 : Nat} (hx : (tSymbol.sl 118).R w w.heap.size [.slice A i.Symbols.length c] i.Symbols) (hy : (tSymbol.sl 118).R w w.heap.size [.slice B0 d.Symbols.length e0] d.Symbols) (hs : i.Code.size ≤ 1099511627776) :
    Calls Try.prog 65 #[.agg #[.string i.Code, .slice A i.Symbols.length c], .agg #[.int .i64 d.Id, .slice B0 d.Symbols.length e0, .slice B1 d.Rules.length e1, .slice B2 d.Rows.length e2, .slice B3 d.Inlines.length e3]] w fun r w' => r = .returned (.bool (fitsD i d)) ∧ Gro w w' := by
  have hG0 : Gro w ((w.alloc (.cells #[.string i.Code, .slice A i.Symbols.length c] 96)).alloc (.cells #[.int .i64 d.Id, .slice B0 d.Symbols.length e0, .slice B1 d.Rules.length e1, .slice B2 d.Rows.length e2, .slice B3 d.Inlines.length e3] 101)) := (by repeat (first | with_reducible exact Gro.refl _ | with_reducible exact Gro.refl_drew _ _ _ | with_reducible exact Gro.refl_drewN _ _ _ _ | assumption | with_reducible apply Gro.more | with_reducible apply Gro.alloc | with_reducible apply Gro.drew | with_reducible apply Gro.drewN))
  have eb : ((w.alloc (.cells #[.string i.Code, .slice A i.Symbols.length c] 96)).alloc (.cells #[.int .i64 d.Id, .slice B0 d.Symbols.length e0, .slice B1 d.Rules.length e1, .slice B2 d.Rows.length e2, .slice B3 d.Inlines.length e3] 101)).heap[w.heap.size]? = some (.cells #[.string i.Code, .slice A i.Symbols.length c] 96 (0, 0)) := grow_blk (heap_alloc_new w _) (by (repeat (first | with_reducible exact Gro.refl _ | with_reducible exact Gro.refl_drew _ _ _ | with_reducible exact Gro.refl_drewN _ _ _ _ | assumption | with_reducible apply Gro.more | with_reducible apply Gro.alloc | with_reducible apply Gro.drew | with_reducible apply Gro.drewN)); done)
  have ed : ((w.alloc (.cells #[.string i.Code, .slice A i.Symbols.length c] 96)).alloc (.cells #[.int .i64 d.Id, .slice B0 d.Symbols.length e0, .slice B1 d.Rules.length e1, .slice B2 d.Rows.length e2, .slice B3 d.Inlines.length e3] 101)).heap[w.heap.size + 1]? = some (.cells #[.int .i64 d.Id, .slice B0 d.Symbols.length e0, .slice B1 d.Rules.length e1, .slice B2 d.Rows.length e2, .slice B3 d.Inlines.length e3] 101 (0, 0)) := by
    have h := heap_alloc_new (w.alloc (.cells #[.string i.Code, .slice A i.Symbols.length c] 96)) (.cells #[.int .i64 d.Id, .slice B0 d.Symbols.length e0, .slice B1 d.Rules.length e1, .slice B2 d.Rows.length e2, .slice B3 d.Inlines.length e3] 101)
    rw [World.size_alloc] at h
    exact h
  have kx := Ty.up _ hx hG0
  have ky := Ty.up _ hy hG0
  obtain ⟨g, hg⟩ : ∃ g, w.heap.size = g := ⟨_, rfl⟩
  obtain ⟨u, hu⟩ : ∃ u, idN i.Code i.Code.size = u := ⟨_, rfl⟩
  have HU := Lib.hid hu
  have HF := Lib.hid (show fitsD i d = (decide (d.Id = u) && decide (i.Symbols = d.Symbols)) from by unfold fitsD; rw [hu])
  clear hu
  go_enter Try.func65, Try.ntmps65
  go_upto_region 1 with (fail)
  rw [hg] at eb ed
  generalize ((w.alloc (.cells #[.string i.Code, .slice A i.Symbols.length c] 96)).alloc (.cells #[.int .i64 d.Id, .slice B0 d.Symbols.length e0, .slice B1 d.Rules.length e1, .slice B2 d.Rows.length e2, .slice B3 d.Inlines.length e3] 101)) = Y at hG0 eb ed kx ky ⊢
  clear hx hy
  have hyl : d.Symbols.length ≤ 9223372036854775807 := by obtain ⟨A9, c9, h1, h2, h3⟩ := sl_at ky; omega
  obtain ⟨y0, y1, yf0, yf1, yl⟩ := box2 eb
  obtain ⟨z0, z1, z2, z3, z4, zf, zl⟩ := row5 ed
  by_cases hid : d.Id = u
  · have hq : (d.Id != u) = false := by simp [hid]
    have hq2 : decide (d.Id = u) = true := by simp [hid]
    have HF2 := Lib.hid (show fitsD i d = decide (i.Symbols = d.Symbols) from by rw [HF.out, hq2, Bool.true_and])
    clear hid hq2
    by_cases hl : d.Symbols.length = i.Symbols.length
    · have hne : ((d.Symbols.length : Int) != (i.Symbols.length : Int)) = false := by simp [hl]
      have HL := Lib.hid hl
      clear hl
      go_region_held3 (fun w' => w'.cell? ⟨g, 0, none⟩ = some (.string i.Code) ∧ w'.cell? ⟨g, 1, none⟩ = some (.slice A i.Symbols.length c) ∧ w'.cell? ⟨g + 1, 0, none⟩ = some (.int .i64 d.Id) ∧ w'.cell? ⟨g + 1, 1, none⟩ = some (.slice B0 d.Symbols.length e0)) ((repeat' apply And.intro) <;> (first | ((repeat (first | assumption | with_reducible refine gro_keeps ?_ _ _ | with_reducible refine alloc_keeps ?_ _ | with_reducible refine drew_keeps ?_)); done) | (simp [go_sem]; done))) (first
        | (go_at_call 96; (with_reducible refine (imageId_s (i := i) hs).mono ?_); rw [HU.out]; rintro e w1 ⟨rfl, os1, d1, rfl⟩))
      go_wp2_with (fail)
      go_loopw [5] (fun a wr => ∃ k : Nat, k ≤ d.Symbols.length ∧ a = .int .i64 k ∧ Hid (Gro Y wr) ∧ Hid (i.Symbols.take k = d.Symbols.take k)) (fun a _ => d.Symbols.length - (intOf a).toNat)
      case atStart => exact ⟨0, Nat.zero_le _, rfl, Lib.hid (by repeat (first | with_reducible exact Gro.refl _ | with_reducible exact Gro.refl_drew _ _ _ | with_reducible exact Gro.refl_drewN _ _ _ _ | assumption | with_reducible apply Gro.more | with_reducible apply Gro.alloc | with_reducible apply Gro.drew | with_reducible apply Gro.drewN)), Lib.hid (by simp)⟩
      case round =>
        obtain ⟨k, hk, rfl, hG, HT⟩ := hrel
        obtain ⟨os, dd, rfl⟩ := hG.out
        clear hG
        have z0 := gro_keeps z0 os dd
        have z1 := gro_keeps z1 os dd
        have y0 := gro_keeps y0 os dd
        have y1 := gro_keeps y1 os dd
        by_cases hlt : k < d.Symbols.length
        · have hlt2 : k < i.Symbols.length := by rw [← HL.out]; exact hlt
          obtain ⟨gx, offx, x, rfl, hgb, hxk, hx0, hx1, hx2, bx0, bx1, bx2⟩ := atSymbol kx hlt2
          obtain ⟨gy, offy, y, rfl, hgb', hyk, hy0, hy1, hy2, by0, by1, by2⟩ := atSymbol ky hlt
          have HX := Lib.hid hxk
          have HY := Lib.hid hyk
          clear hxk hyk kx ky
          have hki : (k : Int) < (d.Symbols.length : Int) := by omega
          have hki2 : (k : Int) < (i.Symbols.length : Int) := by omega
          have q0 := gro_keeps hx0 os dd
          have q1 := gro_keeps hx1 os dd
          have q2 := gro_keeps hx2 os dd
          have r0 := gro_keeps hy0 os dd
          have r1 := gro_keeps hy1 os dd
          have r2 := gro_keeps hy2 os dd
          clear hx0 hx1 hx2 hy0 hy1 hy2
          by_cases hs' : y.Name = x.Name
          · have hsb : (y.Name.toList == x.Name.toList) = true := by rw [str_eqb]; simp [hs']
            by_cases hc : y.Start = x.Start
            · have hcb : (y.Start == x.Start) = true := by simp [hc]
              by_cases hz : y.Size = x.Size
              · have hzb : (y.Size == x.Size) = true := by simp [hz]
                have HXY := Lib.hid (show x = y from by cases x; cases y; simp only at hs' hc hz; rw [hs', hc, hz])
                clear hs' hc hz
                go_wp2_with (fail)
                go_quiet (fail)
                go_wp2_with (fail)
                go_roundw
                case rel => exact ⟨k + 1, by omega, by go_num, Lib.hid (by repeat (first | with_reducible exact Gro.refl _ | with_reducible exact Gro.refl_drew _ _ _ | with_reducible exact Gro.refl_drewN _ _ _ _ | assumption | with_reducible apply Gro.more | with_reducible apply Gro.alloc | with_reducible apply Gro.drew | with_reducible apply Gro.drewN)), Lib.hid (by rw [take_snoc HX.out, take_snoc HY.out, HT.out, HXY.out])⟩
                case measure => simp [intOf]; omega
              · have hzb : (y.Size == x.Size) = false := by simp [hz]
                have HXY := Lib.hid (show x ≠ y from by rintro rfl; exact hz rfl)
                clear hs' hc hz
                go_wp2_with (fail)
                go_quiet (fail)
                go_wp2_with (fail)
                go_ret
                refine ⟨ret_bool ?_, hG0.trans (by repeat (first | with_reducible exact Gro.refl _ | with_reducible exact Gro.refl_drew _ _ _ | with_reducible exact Gro.refl_drewN _ _ _ _ | assumption | with_reducible apply Gro.more | with_reducible apply Gro.alloc | with_reducible apply Gro.drew | with_reducible apply Gro.drewN))⟩
                rw [HF2.out]
                symm
                simp only [decide_eq_false_iff_not]
                intro h8
                have h9 := HX.out.symm.trans ((congrArg (fun l => l[k]?) h8).trans HY.out)
                simp at h9
                exact HXY.out h9
            · have hcb : (y.Start == x.Start) = false := by simp [hc]
              have HXY := Lib.hid (show x ≠ y from by rintro rfl; exact hc rfl)
              clear hs' hc
              go_wp2_with (fail)
              go_quiet (fail)
              go_wp2_with (fail)
              go_ret
              refine ⟨ret_bool ?_, hG0.trans (by repeat (first | with_reducible exact Gro.refl _ | with_reducible exact Gro.refl_drew _ _ _ | with_reducible exact Gro.refl_drewN _ _ _ _ | assumption | with_reducible apply Gro.more | with_reducible apply Gro.alloc | with_reducible apply Gro.drew | with_reducible apply Gro.drewN))⟩
              rw [HF2.out]
              symm
              simp only [decide_eq_false_iff_not]
              intro h8
              have h9 := HX.out.symm.trans ((congrArg (fun l => l[k]?) h8).trans HY.out)
              simp at h9
              exact HXY.out h9
          · have hsb : (y.Name.toList == x.Name.toList) = false := by rw [str_eqb]; simp [hs']
            have HXY := Lib.hid (show x ≠ y from by rintro rfl; exact hs' rfl)
            clear hs'
            go_wp2_with (fail)
            go_quiet (fail)
            go_wp2_with (fail)
            go_ret
            refine ⟨ret_bool ?_, hG0.trans (by repeat (first | with_reducible exact Gro.refl _ | with_reducible exact Gro.refl_drew _ _ _ | with_reducible exact Gro.refl_drewN _ _ _ _ | assumption | with_reducible apply Gro.more | with_reducible apply Gro.alloc | with_reducible apply Gro.drew | with_reducible apply Gro.drewN))⟩
            rw [HF2.out]
            symm
            simp only [decide_eq_false_iff_not]
            intro h8
            have h9 := HX.out.symm.trans ((congrArg (fun l => l[k]?) h8).trans HY.out)
            simp at h9
            exact HXY.out h9
        · have hki : ¬ ((k : Int) < (d.Symbols.length : Int)) := by omega
          go_wp2_with (fail)
          go_ret
          refine ⟨ret_bool ?_, hG0.trans (by repeat (first | with_reducible exact Gro.refl _ | with_reducible exact Gro.refl_drew _ _ _ | with_reducible exact Gro.refl_drewN _ _ _ _ | assumption | with_reducible apply Gro.more | with_reducible apply Gro.alloc | with_reducible apply Gro.drew | with_reducible apply Gro.drewN))⟩
          have : k = d.Symbols.length := by omega
          subst this
          have h1 := HT.out
          rw [HL.out] at h1
          simp only [List.take_length] at h1
          rw [← HL.out] at h1
          simp at h1
          rw [HF2.out]
          simp [h1]
    · have hne : ((d.Symbols.length : Int) != (i.Symbols.length : Int)) = true := by simp; omega
      have HF3 := Lib.hid (show fitsD i d = false from by rw [HF2.out]; simp only [decide_eq_false_iff_not]; intro h; exact hl (congrArg List.length h).symm)
      clear hl
      go_region_held3 (fun w' => w'.cell? ⟨g, 0, none⟩ = some (.string i.Code) ∧ w'.cell? ⟨g, 1, none⟩ = some (.slice A i.Symbols.length c) ∧ w'.cell? ⟨g + 1, 0, none⟩ = some (.int .i64 d.Id) ∧ w'.cell? ⟨g + 1, 1, none⟩ = some (.slice B0 d.Symbols.length e0)) ((repeat' apply And.intro) <;> (first | ((repeat (first | assumption | with_reducible refine gro_keeps ?_ _ _ | with_reducible refine alloc_keeps ?_ _ | with_reducible refine drew_keeps ?_)); done) | (simp [go_sem]; done))) (first
        | (go_at_call 96; (with_reducible refine (imageId_s (i := i) hs).mono ?_); rw [HU.out]; rintro e w1 ⟨rfl, os1, d1, rfl⟩))
      go_wp2_with (fail)
      go_ret
      exact ⟨ret_bool HF3.out.symm, hG0.trans (by repeat (first | with_reducible exact Gro.refl _ | with_reducible exact Gro.refl_drew _ _ _ | with_reducible exact Gro.refl_drewN _ _ _ _ | assumption | with_reducible apply Gro.more | with_reducible apply Gro.alloc | with_reducible apply Gro.drew | with_reducible apply Gro.drewN))⟩
  · have hq : (d.Id != u) = true := by simp [hid]
    have HF2 := Lib.hid (show fitsD i d = false from by rw [HF.out]; simp [hid])
    clear hid
    first | (go_region_law (first | (go_simp; go_at_call 96; refine (imageId_s (i := i) hs).mono ?_; rw [HU.out]; rintro e w1 ⟨rfl, os1, d1, rfl⟩))) | fail
    all_goals
      go_wp2_with (fail)
      go_ret
      exact ⟨ret_bool HF2.out.symm, hG0.trans (by repeat (first | with_reducible exact Gro.refl _ | with_reducible exact Gro.refl_drew _ _ _ | with_reducible exact Gro.refl_drewN _ _ _ _ | assumption | with_reducible apply Gro.more | with_reducible apply Gro.alloc | with_reducible apply Gro.drew | with_reducible apply Gro.drewN))⟩
end Go.Proofs.Ytbhobjepjaeffaa
