/-
  The law FnRingCounts answers true for every input: what was put into a ring is there, was taken from it or is counted as lost; the input stays. No condition.
-/
import Derived.Test.YtdlkoffandhclaaRows
import Derived.Test.YtdlkoffandhclaaOpen
import Derived.Test.YtdlkoffandhclaaLawBase
import Derived.Test.YtdlkoffandhclaaAtLaw
import Derived.Test.YtdlkoffandhclaaRingLaw
import Derived.Test.YtdlkoffandhclaaBoxes
import Derived.Test.YtdlkoffandhclaaBox4
import Derived.ShutString
import Derived.Deep.RegionHeld3
import Derived.BigQuiet
import Derived.Deep.CutRange
set_option linter.unusedVariables false
set_option linter.unusedSimpArgs false
namespace Go.Proofs.Ytdlkoffandhclaa.fnRingCounts
open Go.ChangeShapes Go.WideShapes Go.ChangeAt Go.RowKit
open Go.ChangeMaps (open_string shut_string)
theorem own : ownKnob Try.prog.godebug = none := by kernel_rfl
theorem laidOut : laidOutB Try.prog = true := by kernel_rfl
set_option maxRecDepth 100000 in
set_option maxHeartbeats 8000000 in
theorem walk (w : World) (v : Value) (xs : List UInt8) (hx : (byteT.sl 5).R w w.heap.size [v] xs) :
    Calls Try.prog 4 #[v] w fun e w' => e = .returned (.bool true) ∧ Gro w w' := by
  obtain ⟨A, c, rfl, hxl, hcm⟩ := sl_at hx
  by_cases hb : xs.length ≤ 1048576
  case neg =>
    have hb2 := Lib.hid (show decide (1048576 < (xs.length : Int)) = true from decide_eq_true (by omega))
    go_enter Try.func4, Try.ntmps4
    go_wp2_with (go_at_call 11; refine (big_l _ _ _ _).mono ?_; rw [hb2.out]; rintro e w1 ⟨rfl, os1, d1, rfl⟩)
    go_ret
    exact ⟨rfl, (by repeat (first | with_reducible exact Gro.refl _ | with_reducible exact Gro.refl_drew _ _ _ | with_reducible exact Gro.refl_drewN _ _ _ _ | assumption | with_reducible apply Gro.more | with_reducible apply Gro.alloc | with_reducible apply Gro.drew | with_reducible apply Gro.drewN))⟩
  have hb2 := Lib.hid (show decide (1048576 < (xs.length : Int)) = false from decide_eq_false (by omega))
  have hl40 : xs.length ≤ 1099511627776 := by omega
  have hcap : (Int.tmod ((byteAt xs 0 : Nat) : Int) 60) = ((byteAt xs 0 % 60 : Nat) : Int) := by rw [Int.tmod_eq_emod_of_nonneg (by omega)]; omega
  have hcb : byteAt xs 0 % 60 < 60 := Nat.mod_lt _ (by omega)
  obtain ⟨q, hq⟩ : ∃ q, byteAt xs 0 % 60 = q := ⟨_, rfl⟩
  rw [hq] at hcap hcb
  have HQ := Lib.hid hq
  clear hq
  obtain ⟨b0, hb0⟩ : ∃ b0, byteAt xs 0 = b0 := ⟨_, rfl⟩
  have HB0 := Lib.hid hb0
  rw [hb0] at hcap
  have hb0b := byteAt_lt xs 0
  rw [hb0] at hb0b
  clear hb0
  go_enter Try.func4, Try.ntmps4
  go_wp2_with (first
    | (go_at_call 11; refine (big_l _ _ _ _).mono ?_; rw [hb2.out]; rintro e w1 ⟨rfl, os1, d1, rfl⟩)
    | (go_at_call 12; refine (at_l (Ty.up _ hx (by repeat (first | with_reducible exact Gro.refl _ | with_reducible exact Gro.refl_drew _ _ _ | with_reducible exact Gro.refl_drewN _ _ _ _ | assumption | with_reducible apply Gro.more | with_reducible apply Gro.alloc | with_reducible apply Gro.drew | with_reducible apply Gro.drewN))) 0 (by omega) hl40).mono ?_; rw [HB0.out]; rintro e w2 ⟨rfl, os2, d2, rfl⟩))
  obtain ⟨g, hg⟩ : ∃ g, w.heap.size + os1.size + os2.size = g := ⟨_, rfl⟩
  have hRx := Ty.up _ hx (show Gro w ((((gro (gro w os1 d1) os2 d2).alloc (.cells #[.int .i64 (5 + (q : Int)), .slice none 0 0, .int .i64 0, .int .i64 0] 38)).alloc (.cells #[] 9)).alloc (.cells #[] 9)) from (by repeat (first | with_reducible exact Gro.refl _ | with_reducible exact Gro.refl_drew _ _ _ | with_reducible exact Gro.refl_drewN _ _ _ _ | assumption | with_reducible apply Gro.more | with_reducible apply Gro.alloc | with_reducible apply Gro.drew | with_reducible apply Gro.drewN)))
  have hG0 : Gro w ((((gro (gro w os1 d1) os2 d2).alloc (.cells #[.int .i64 (5 + (q : Int)), .slice none 0 0, .int .i64 0, .int .i64 0] 38)).alloc (.cells #[] 9)).alloc (.cells #[] 9)) := (by repeat (first | with_reducible exact Gro.refl _ | with_reducible exact Gro.refl_drew _ _ _ | with_reducible exact Gro.refl_drewN _ _ _ _ | assumption | with_reducible apply Gro.more | with_reducible apply Gro.alloc | with_reducible apply Gro.drew | with_reducible apply Gro.drewN))
  have e0 : ((((gro (gro w os1 d1) os2 d2).alloc (.cells #[.int .i64 (5 + (q : Int)), .slice none 0 0, .int .i64 0, .int .i64 0] 38)).alloc (.cells #[] 9)).alloc (.cells #[] 9)).heap[g]? = some (.cells #[.int .i64 (5 + (q : Int)), .slice none 0 0, .int .i64 0, .int .i64 0] 38 (0, 0)) := by
    subst hg
    have h1 := heap_alloc_new (gro (gro w os1 d1) os2 d2) (.cells #[.int .i64 (5 + (q : Int)), .slice none 0 0, .int .i64 0, .int .i64 0] 38)
    have h2 := grow_blk h1 (show Gro _ ((((gro (gro w os1 d1) os2 d2).alloc (.cells #[.int .i64 (5 + (q : Int)), .slice none 0 0, .int .i64 0, .int .i64 0] 38)).alloc (.cells #[] 9)).alloc (.cells #[] 9)) from (by repeat (first | with_reducible exact Gro.refl _ | with_reducible exact Gro.refl_drew _ _ _ | with_reducible exact Gro.refl_drewN _ _ _ _ | assumption | with_reducible apply Gro.more | with_reducible apply Gro.alloc | with_reducible apply Gro.drew | with_reducible apply Gro.drewN)))
    simpa using h2
  have e1 : ((((gro (gro w os1 d1) os2 d2).alloc (.cells #[.int .i64 (5 + (q : Int)), .slice none 0 0, .int .i64 0, .int .i64 0] 38)).alloc (.cells #[] 9)).alloc (.cells #[] 9)).heap[g + 1]? = some (.cells #[] 9 (0, 0)) := by
    subst hg
    have h1 := heap_alloc_new ((gro (gro w os1 d1) os2 d2).alloc (.cells #[.int .i64 (5 + (q : Int)), .slice none 0 0, .int .i64 0, .int .i64 0] 38)) (.cells #[] 9)
    have h2 := grow_blk h1 (show Gro _ ((((gro (gro w os1 d1) os2 d2).alloc (.cells #[.int .i64 (5 + (q : Int)), .slice none 0 0, .int .i64 0, .int .i64 0] 38)).alloc (.cells #[] 9)).alloc (.cells #[] 9)) from (by repeat (first | with_reducible exact Gro.refl _ | with_reducible exact Gro.refl_drew _ _ _ | with_reducible exact Gro.refl_drewN _ _ _ _ | assumption | with_reducible apply Gro.more | with_reducible apply Gro.alloc | with_reducible apply Gro.drew | with_reducible apply Gro.drewN)))
    simpa using h2
  have e2 : ((((gro (gro w os1 d1) os2 d2).alloc (.cells #[.int .i64 (5 + (q : Int)), .slice none 0 0, .int .i64 0, .int .i64 0] 38)).alloc (.cells #[] 9)).alloc (.cells #[] 9)).heap[g + 1 + 1]? = some (.cells #[] 9 (0, 0)) := by
    subst hg
    have h1 := heap_alloc_new (((gro (gro w os1 d1) os2 d2).alloc (.cells #[.int .i64 (5 + (q : Int)), .slice none 0 0, .int .i64 0, .int .i64 0] 38)).alloc (.cells #[] 9)) (.cells #[] 9)
    simpa using h1
  have hwg : w.heap.size ≤ g := by omega
  have hgs : g + 2 < ((((gro (gro w os1 d1) os2 d2).alloc (.cells #[.int .i64 (5 + (q : Int)), .slice none 0 0, .int .i64 0, .int .i64 0] 38)).alloc (.cells #[] 9)).alloc (.cells #[] 9)).heap.size := by
    subst hg
    simp
  rw [hg]
  generalize ((((gro (gro w os1 d1) os2 d2).alloc (.cells #[.int .i64 (5 + (q : Int)), .slice none 0 0, .int .i64 0, .int .i64 0] 38)).alloc (.cells #[] 9)).alloc (.cells #[] 9)) = Y at hRx hG0 e0 e1 e2 hgs ⊢
  clear hg
  go_loopw [4, 5, 6, 7] (fun a b c9 d9 wr => ∃ (k : Nat) (r : DRing) (put got : List ByteArray) (t : Int) (A0 : Option Addr) (c0 : Nat) (A1 : Option Addr) (c1 : Nat) (A2 : Option Addr) (c2 : Nat) (S0 S1 S2 : List Nat), a = .slice A1 put.length c1 ∧ b = .slice A2 got.length c2 ∧ c9 = .int .i64 t ∧ d9 = .int .i64 k ∧ k ≤ 24 ∧ RC (5 + (q : Int)) k r put got t ∧ Gro w wr ∧ (∀ s ∈ put, s.size ≤ 5) ∧
      Hid (wr.heap[g]? = some (.cells #[.int .i64 r.Capacity, .slice A0 r.Records.length c0, .int .i64 r.Written, .int .i64 r.Lost] 38 (0, 0))) ∧ Has (strT.sl 9) wr [.slice A0 r.Records.length c0] r.Records S0 ∧ Has (strT.sl 9) wr [.slice A1 put.length c1] put S1 ∧ Has (strT.sl 9) wr [.slice A2 got.length c2] got S2 ∧
      Hid (∀ b ∈ S0, g < b) ∧ Hid (∀ b ∈ S1, g < b) ∧ Hid (∀ b ∈ S2, g < b) ∧ Hid (∀ b ∈ S0, b ∉ S1) ∧ Hid (∀ b ∈ S0, b ∉ S2) ∧ Hid (∀ b ∈ S1, b ∉ S2)) (fun _ _ _ d9 _ => 24 - (intOf d9).toNat)
  case atStart => exact ⟨0, ⟨5 + (q : Int), [], 0, 0⟩, [], [], 0, none, 0, _, 0, _, 0, [], [g + 1], [g + 1 + 1], rfl, rfl, rfl, rfl, by omega, RC.start (by omega) (by omega), hG0, by simp, Lib.hid e0, Has.nil _ _ _, Has.emp _ e1, Has.emp _ e2, Lib.hid (by simp), Lib.hid (by simp), Lib.hid (by simp; omega), Lib.hid (by simp), Lib.hid (by simp), Lib.hid (by simp)⟩
  case round =>
    obtain ⟨k, r, put, got, t, A0, c0, A1, c1, A2, c2, S0, S1, S2, rfl, rfl, rfl, rfl, hk, hrc, hG, hps, hbx, hH0, hH1, hH2, hl0, hl1, hl2, hd01, hd02, hd12⟩ := hrel
    obtain ⟨bk, hbk⟩ : ∃ bk, byteAt xs k = bk := ⟨_, rfl⟩
    have HBK := Lib.hid hbk
    have hbkb := byteAt_lt xs k
    rw [hbk] at hbkb
    clear hbk
    have hlen := hrc.len
    obtain ⟨hlp, hlg, hlr⟩ := hlen
    have ht : 0 ≤ t ∧ t ≤ k := by
      have h1 := hrc.wr
      have h2 := hrc.sum
      have h3 := hrc.lost
      have h4 := hrc.few
      omega
    obtain ⟨ht0, ht1⟩ := ht
    by_cases hlt : k < 24
    · have h4 : Int.tmod ((bk : Nat) : Int) 4 = ((bk % 4 : Nat) : Int) := by rw [Int.tmod_eq_emod_of_nonneg (by omega)]; omega
      obtain ⟨m4, hm4⟩ : ∃ m4, bk % 4 = m4 := ⟨_, rfl⟩
      rw [hm4] at h4
      clear hm4
      by_cases hm : m4 = 0
      · have hm1 : (((m4 : Nat) : Int) == 0) = true := by rw [hm]; rfl
        clear hm
        obtain ⟨b1, hb1⟩ : ∃ b1, byteAt xs (k + 1) = b1 := ⟨_, rfl⟩
        have HB1 := Lib.hid hb1
        have hb1b := byteAt_lt xs (k + 1)
        rw [hb1] at hb1b
        clear hb1
        have h5 : Int.tmod ((b1 : Nat) : Int) 4 = ((b1 % 4 : Nat) : Int) := by rw [Int.tmod_eq_emod_of_nonneg (by omega)]; omega
        obtain ⟨m5, hm5⟩ : ∃ m5, b1 % 4 = m5 := ⟨_, rfl⟩
        rw [hm5] at h5
        clear hm5
        obtain ⟨r', l, hT, hrc'⟩ := hrc.take (n := (m5 : Int)) (by omega)
        have HT := Lib.hid hT
        have hw1 : IntKind.i64.wrap ((k : Int) + 1) = (k : Int) + 1 := IntWalk.i64_in _ ⟨by omega, by omega⟩
        have hbd := ringOk_bd hrc.ok
        have hsum : sumS r.Records ≤ 1099511627776 := by omega
        have hI0 : I64 r.Capacity := ⟨by omega, by omega⟩
        have hI1 : I64 r.Written := ⟨by omega, by omega⟩
        have hI2 : I64 r.Lost := ⟨by omega, by omega⟩
        have hgl : g < wr.heap.size := (Array.getElem?_eq_some_iff.1 hbx.out).1
        obtain ⟨y0, y1, y2, y3, yf⟩ := box4 hbx.out
        have yf0 := yf 0
        have yf1 := yf 1
        have yf2 := yf 2
        have yf3 := yf 3
        have hlk := hrc'.len
        obtain ⟨_, hlk2, _⟩ := hlk
        rw [List.length_append] at hlk2
        clear hT hbd yf
        have hxr := Ty.up _ hx hG
        go_upto_region 11 with (go_at_call 12; (with_reducible refine (at_l hxr k (by omega) hl40).mono ?_); rw [HBK.out]; rintro e w3 ⟨rfl, os3, d3, rfl⟩)
        go_cut [8, 9] from 33 to 43 (fun a b wx => ∃ (bx : Nat) (A5 : Option Addr) (c5 : Nat) (A6 : Option Addr) (c6 : Nat) (T0 T1 : List Nat), a = .pointer (some ⟨bx, 0, none⟩) ∧ b = .slice A6 l.length c6 ∧ wx.cell? ⟨bx, 0, none⟩ = some (.int .i64 r'.Capacity) ∧ wx.cell? ⟨bx, 1, none⟩ = some (.slice A5 r'.Records.length c5) ∧ wx.cell? ⟨bx, 2, none⟩ = some (.int .i64 r'.Written) ∧ wx.cell? ⟨bx, 3, none⟩ = some (.int .i64 r'.Lost) ∧ Gro wr wx ∧ Has (strT.sl 9) wx [.slice A5 r'.Records.length c5] r'.Records T0 ∧ Has (strT.sl 9) wx [.slice A6 l.length c6] l T1 ∧ (∀ b ∈ T0, wr.heap.size ≤ b) ∧ (∀ b ∈ T1, wr.heap.size ≤ b))
        case first =>
          have x0 := gro_keeps y0 os3 d3
          have x1 := gro_keeps y1 os3 d3
          have x2 := gro_keeps y2 os3 d3
          have x3 := gro_keeps y3 os3 d3
          go_region_held3 (fun w' => w'.cell? ⟨g, 0, none⟩ = some (.int .i64 r.Capacity) ∧ w'.cell? ⟨g, 1, none⟩ = some (.slice A0 r.Records.length c0) ∧ w'.cell? ⟨g, 2, none⟩ = some (.int .i64 r.Written) ∧ w'.cell? ⟨g, 3, none⟩ = some (.int .i64 r.Lost)) ((repeat' apply And.intro) <;> (first | ((repeat (first | assumption | with_reducible refine gro_keeps ?_ _ _ | with_reducible refine alloc_keeps ?_ _ | with_reducible refine drew_keeps ?_)); done) | (simp [go_sem]; done))) (first
            | (go_at_call 12; (with_reducible refine (at_z (z := (k : Int) + 1) (b := b1) (Ty.up _ hx (by repeat (first | with_reducible exact Gro.refl _ | with_reducible exact Gro.refl_drew _ _ _ | with_reducible exact Gro.refl_drewN _ _ _ _ | assumption | with_reducible apply Gro.more | with_reducible apply Gro.alloc | with_reducible apply Gro.drew | with_reducible apply Gro.drewN))) (k + 1) (by omega) HB1.out (by omega) hl40).mono ?_); rintro e w4 ⟨rfl, os4, d4, rfl⟩)
            | (go_at_call 13; (with_reducible refine (take_i (r := r) (n := (m5 : Int)) hI0 (Ty.up _ hH0.read (by repeat (first | with_reducible exact Gro.refl _ | with_reducible exact Gro.refl_drew _ _ _ | with_reducible exact Gro.refl_drewN _ _ _ _ | assumption | with_reducible apply Gro.more | with_reducible apply Gro.alloc | with_reducible apply Gro.drew | with_reducible apply Gro.drewN))) hI1 hI2 (by omega) hsum).mono ?_); rw [HT.out]; rintro e w5 ⟨A5, c5, A6, c6, rfl, hF5, os5, d5, rfl⟩))
          all_goals go_wp2_with fail
          all_goals go_meet
          all_goals
            obtain ⟨T0, T1, j0, j1, j2, j3, j4⟩ := ring_strs hF5
            simp at j2 j3
            refine ⟨_, A5, c5, A6, c6, T0, T1, rfl, rfl, by simp [go_sem], by simp [go_sem], by simp [go_sem], by simp [go_sem], (by repeat (first | with_reducible exact Gro.refl _ | with_reducible exact Gro.refl_drew _ _ _ | with_reducible exact Gro.refl_drewN _ _ _ _ | assumption | with_reducible apply Gro.more | with_reducible apply Gro.alloc | with_reducible apply Gro.drew | with_reducible apply Gro.drewN)), Has.same j0 j2 (by repeat (first | with_reducible exact Same.refl _ _ _ | ((with_reducible refine same_hi ?_ ?_) <;> (simp <;> omega)) | ((with_reducible refine same_gro ?_ ?_); rotate_left; (simp <;> omega)) | ((with_reducible refine same_alloc ?_ ?_); rotate_left; (simp <;> omega)) | ((with_reducible refine same_alloc_lo ?_ ?_ ?_); rotate_left; (simp <;> omega); (simp <;> omega)) | with_reducible apply same_drew_l | ((with_reducible refine Same.more ?_ ?_ _ _); rotate_left; simp <;> omega) | ((with_reducible refine Same.alloc ?_ ?_ _); rotate_left; simp <;> omega) | with_reducible apply Same.drew | with_reducible apply Same.drewN)), Has.same j1 j3 (by repeat (first | with_reducible exact Same.refl _ _ _ | ((with_reducible refine same_hi ?_ ?_) <;> (simp <;> omega)) | ((with_reducible refine same_gro ?_ ?_); rotate_left; (simp <;> omega)) | ((with_reducible refine same_alloc ?_ ?_); rotate_left; (simp <;> omega)) | ((with_reducible refine same_alloc_lo ?_ ?_ ?_); rotate_left; (simp <;> omega); (simp <;> omega)) | with_reducible apply same_drew_l | ((with_reducible refine Same.more ?_ ?_ _ _); rotate_left; simp <;> omega) | ((with_reducible refine Same.alloc ?_ ?_ _); rotate_left; simp <;> omega) | with_reducible apply Same.drew | with_reducible apply Same.drewN)), fun b hb => by have := j2 b hb; omega, fun b hb => by have := j3 b hb; omega⟩
        case rest =>
          obtain ⟨bx, A5, c5, A6, c6, T0, T1, rfl, rfl, z0, z1, z2, z3, hGX, j0, j1, j2, j3⟩ := hcut
          clear hw1 h4 h5 hm1 hxr HT
          have eg := grow_blk hbx.out hGX
          clear y0 y1 y2 y3 yf0 yf1 yf2 yf3
          obtain ⟨y0, y1, y2, y3, yf⟩ := box4 eg
          have yf0 := yf 0
          have yf1 := yf 1
          have yf2 := yf 2
          have yf3 := yf 3
          clear yf
          have hgw : g < wc.heap.size := (Array.getElem?_eq_some_iff.1 eg).1
          have h2 := set4 eg (.int .i64 r'.Capacity) (.slice A5 r'.Records.length c5) (.int .i64 r'.Written) (.int .i64 r'.Lost)
          have hz2 := h2.2.size
          have hng : ∀ b ∈ T0, b ∉ [g] := fun b hb hm => by have := j2 b hb; simp at hm; omega
          have hng1 : ∀ b ∈ T1, b ∉ [g] := fun b hb hm => by have := j3 b hb; simp at hm; omega
          have hlt0 : ∀ b ∈ S2, b < wr.heap.size := hH2.lt
          have hlt1 : ∀ b ∈ S1, b < wr.heap.size := hH1.lt
          have hwc := hGX.size
          go_wp2_with (((refine wpList_append_hasl (L := got.length + l.length) rfl (.tmp 44) (.tmp 45) el_str flat_str (S := S2) (((hH2.gro hGX).keep h2.2 (fun b hb hm => by have := hl2.out b hb; simp at hm; omega)).gro (by (repeat (first | with_reducible exact Gro.refl _ | with_reducible exact Gro.refl_drew _ _ _ | with_reducible exact Gro.refl_drewN _ _ _ _ | assumption | with_reducible apply Gro.more | with_reducible apply Gro.alloc | with_reducible apply Gro.drew | with_reducible apply Gro.drewN)); done)) (Ty.up _ (j1.keep h2.2 hng1).read (by (repeat (first | with_reducible exact Gro.refl _ | with_reducible exact Gro.refl_drew _ _ _ | with_reducible exact Gro.refl_drewN _ _ _ _ | assumption | with_reducible apply Gro.more | with_reducible apply Gro.alloc | with_reducible apply Gro.drew | with_reducible apply Gro.drewN)); done)) rfl rfl rfl rfl (by omega) (by omega) ?_)); intro A7 c7 W7 S7 hon hH7 hS7)
          go_roundw
          case measure => simp [intOf]; omega
          case rel =>
            have hGW := hon.gro (W0 := w) (h2.2.gro (hG.trans hGX) (fun b hb => by simp at hb; omega)) (fun b hb => by have := hl2.out b hb; omega)
            have hgn : g ∉ S2 := fun hm => by have := hl2.out g hm; omega
            refine ⟨k + 1, r', put, got ++ l, t, A5, c5, A1, c1, A7, c7, T0, S1, S7, rfl, by rw [List.length_append], rfl, by go_num, by omega, hrc', hGW, hps, Lib.hid ?_, ?_, ?_, ?_, Lib.hid ?_, hl1, Lib.hid ?_, Lib.hid ?_, Lib.hid ?_, Lib.hid ?_⟩
            · exact (hon.block g (by omega) hgn).trans h2.1
            · exact (j0.keep h2.2 hng).keep hon (fun b hb hm => by have h1 := j2 b hb; have h3 := hlt0 b hm; omega)
            · exact ((hH1.gro hGX).keep h2.2 (fun b hb hm => by have := hl1.out b hb; simp at hm; omega)).keep hon hd12.out
            · rw [List.length_append]
              exact hH7
            · exact fun b hb => by have := j2 b hb; omega
            · intro b hb
              rcases hS7 b hb with h | h
              · exact hl2.out b h
              · omega
            · exact fun b hb hm => by have h1 := j2 b hb; have h3 := hlt1 b hm; omega
            · intro b hb hm
              rcases hS7 b hm with h | h
              · have h1 := j2 b hb; have h3 := hlt0 b h; omega
              · have h1 := (j0.keep h2.2 hng).lt b hb; omega
            · intro b hb hm
              rcases hS7 b hm with h | h
              · exact hd12.out b hb h
              · have h3 := hlt1 b hb; omega
      · have hm1 : (((m4 : Nat) : Int) == 0) = false := by simp only [beq_eq_false_iff_ne]; omega
        clear hm
        obtain ⟨b1, hb1⟩ : ∃ b1, byteAt xs (k + 2) = b1 := ⟨_, rfl⟩
        have HB1 := Lib.hid hb1
        have hb1b := byteAt_lt xs (k + 2)
        rw [hb1] at hb1b
        clear hb1
        have hw1 : IntKind.i64.wrap ((k : Int) + 2) = (k : Int) + 2 := IntWalk.i64_in _ ⟨by omega, by omega⟩
        have hpr : bk * b1 < 65026 := by
          have : bk * b1 ≤ 255 * 255 := Nat.mul_le_mul (by omega) (by omega)
          omega
        obtain ⟨pr, hpre⟩ : ∃ pr, bk * b1 = pr := ⟨_, rfl⟩
        have hw2 : IntKind.i64.wrap ((bk : Int) * (b1 : Int)) = (pr : Int) := by rw [← hpre, ← Int.natCast_mul]; exact IntWalk.i64_in _ ⟨by omega, by omega⟩
        rw [hpre] at hpr
        clear hpre
        have hsz := dec_size (n := pr) (by omega)
        obtain ⟨s, hs⟩ : ∃ s : ByteArray, s = ⟨(Lib.decDigits pr).toArray⟩ := ⟨_, rfl⟩
        rw [← hs] at hsz
        obtain ⟨hsz1, hsz2⟩ := hsz
        have HS := Lib.hid hs
        obtain ⟨r', hT, hy, hn⟩ := hrc.put (s := s) (by omega) (by omega)
        have hbd := ringOk_bd hrc.ok
        have hsum : sumS r.Records ≤ 1099511627776 := by omega
        have hI0 : I64 r.Capacity := ⟨by omega, by omega⟩
        have hI1 : I64 r.Written := ⟨by omega, by omega⟩
        have hI2 : I64 r.Lost := ⟨by omega, by omega⟩
        have hgl : g < wr.heap.size := (Array.getElem?_eq_some_iff.1 hbx.out).1
        obtain ⟨V, hV⟩ : ∃ V, ringBytesV r = V := ⟨_, rfl⟩
        have hVb : 0 ≤ V ∧ V ≤ 100000 := by
          rw [← hV]
          unfold ringBytesV
          split <;> omega
        have HV := Lib.hid hV
        obtain ⟨y0, y1, y2, y3, yf⟩ := box4 hbx.out
        have yf0 := yf 0
        have yf1 := yf 1
        have yf2 := yf 2
        have yf3 := yf 3
        rw [hV] at hT hy hn
        have hVc : V = (sumS r.Records : Int) := by rw [← hV]; unfold ringBytesV; rw [if_pos hrc.ok]
        obtain ⟨ok, hok⟩ : ∃ ok, decide (V + (s.size : Int) ≤ r.Capacity) = ok := ⟨_, rfl⟩
        rw [hok] at hT hy hn
        have HT := Lib.hid hT
        have hw3 : IntKind.i64.wrap (V + (s.size : Int)) = V + (s.size : Int) := IntWalk.i64_in _ ⟨by omega, by omega⟩
        clear hbd yf hs hV hT hVc
        have hxr := Ty.up _ hx hG
        go_wp2_with (first
          | (go_at_call 12; (with_reducible refine (at_z (z := (k : Int)) (b := bk) hxr k rfl HBK.out (by omega) hl40).mono ?_); rintro e w3 ⟨rfl, oA, dA, rfl⟩)
          | (go_at_call 12; (with_reducible refine (at_z (z := (k : Int)) (b := bk) (Ty.up _ hx (by repeat (first | with_reducible exact Gro.refl _ | with_reducible exact Gro.refl_drew _ _ _ | with_reducible exact Gro.refl_drewN _ _ _ _ | assumption | with_reducible apply Gro.more | with_reducible apply Gro.alloc | with_reducible apply Gro.drew | with_reducible apply Gro.drewN))) k rfl HBK.out (by omega) hl40).mono ?_); rintro e w3 ⟨rfl, os3, d3, rfl⟩)
          | (go_at_call 12; (with_reducible refine (at_z (z := (k : Int) + 2) (b := b1) (Ty.up _ hx (by repeat (first | with_reducible exact Gro.refl _ | with_reducible exact Gro.refl_drew _ _ _ | with_reducible exact Gro.refl_drewN _ _ _ _ | assumption | with_reducible apply Gro.more | with_reducible apply Gro.alloc | with_reducible apply Gro.drew | with_reducible apply Gro.drewN))) (k + 2) (by omega) HB1.out (by omega) hl40).mono ?_); rintro e w4 ⟨rfl, os4, d4, rfl⟩)
          | (go_at_call 14; go_must ((with_reducible refine (fmtInt_s (pr : Int) (by omega) (by omega) _).mono ?_); rw [Int.toNat_natCast, ← HS.out]); rintro e w5 ⟨rfl, os5, d5, rfl⟩)
          | (go_at_call 15; go_must ((with_reducible refine (put_i (r := r) (s := s) hI0 (Ty.up _ hH0.read (by repeat (first | with_reducible exact Gro.refl _ | with_reducible exact Gro.refl_drew _ _ _ | with_reducible exact Gro.refl_drewN _ _ _ _ | assumption | with_reducible apply Gro.more | with_reducible apply Gro.alloc | with_reducible apply Gro.drew | with_reducible apply Gro.drewN))) hI1 hI2 (by omega) hsum (by omega)).mono ?_); rw [HT.out]); rintro e w6 ⟨A5, c5, rfl, hF5, os6, d6, rfl⟩))
        generalize hX : gro (gro (gro (gro (gro wr oA dA) os3 d3) os4 d4) os5 d5) os6 d6 = X at hF5 ⊢
        have hgn : wr.heap.size + oA.size + os3.size + os4.size + os5.size + os6.size = X.heap.size := by rw [← hX]; simp
        rw [hgn]
        have hGX : Gro wr X := by rw [← hX]; exact (by repeat (first | with_reducible exact Gro.refl _ | with_reducible exact Gro.refl_drew _ _ _ | with_reducible exact Gro.refl_drewN _ _ _ _ | assumption | with_reducible apply Gro.more | with_reducible apply Gro.alloc | with_reducible apply Gro.drew | with_reducible apply Gro.drewN))
        clear hX hgn
        obtain ⟨T0, j0, j2⟩ := hF5.has
        have j0' := (ring_has j0).gro (show Gro X (X.alloc (.cells #[.int .i64 r'.Capacity, .slice A5 r'.Records.length c5, .int .i64 r'.Written, .int .i64 r'.Lost] 38)) from (by repeat (first | with_reducible exact Gro.refl _ | with_reducible exact Gro.refl_drew _ _ _ | with_reducible exact Gro.refl_drewN _ _ _ _ | assumption | with_reducible apply Gro.more | with_reducible apply Gro.alloc | with_reducible apply Gro.drew | with_reducible apply Gro.drewN)))
        have j3 := j0.lt
        have eg := grow_blk hbx.out (show Gro wr (X.alloc (.cells #[.int .i64 r'.Capacity, .slice A5 r'.Records.length c5, .int .i64 r'.Written, .int .i64 r'.Lost] 38)) from hGX.alloc _)
        have ez := heap_alloc_new X (.cells #[.int .i64 r'.Capacity, .slice A5 r'.Records.length c5, .int .i64 r'.Written, .int .i64 r'.Lost] 38)
        have hGZ := hGX.alloc (.cells #[.int .i64 r'.Capacity, .slice A5 r'.Records.length c5, .int .i64 r'.Written, .int .i64 r'.Lost] 38)
        have hnz : X.heap.size < (X.alloc (.cells #[.int .i64 r'.Capacity, .slice A5 r'.Records.length c5, .int .i64 r'.Written, .int .i64 r'.Lost] 38)).heap.size := by simp
        have hnw := hGX.size
        obtain ⟨n, hn'⟩ : ∃ n, X.heap.size = n := ⟨_, rfl⟩
        rw [hn'] at ez hnz hnw j3 ⊢
        generalize (X.alloc (.cells #[.int .i64 r'.Capacity, .slice A5 r'.Records.length c5, .int .i64 r'.Written, .int .i64 r'.Lost] 38)) = Z at j0' eg ez hGZ hnz ⊢
        have k0 := (hH0.gro hGZ).read
        have hgz : g < Z.heap.size := by omega
        clear y0 y1 y2 y3 yf0 yf1 yf2 yf3
        obtain ⟨y0, y1, y2, y3, yf⟩ := box4 eg
        obtain ⟨z0, z1, z2, z3, zf⟩ := box4 ez
        have yf0 := yf 0
        have yf1 := yf 1
        have yf2 := yf 2
        have yf3 := yf 3
        clear yf zf hn' hF5
        have hjl : ∀ b ∈ T0, wr.heap.size ≤ b := fun b hb => by have := j2 b hb; simp at this; omega
        have hlt1 : ∀ b ∈ S1, b < wr.heap.size := hH1.lt
        have hlt2 : ∀ b ∈ S2, b < wr.heap.size := hH2.lt
        go_region_held3 (fun w' => w'.cell? ⟨g, 0, none⟩ = some (.int .i64 r.Capacity) ∧ w'.cell? ⟨g, 1, none⟩ = some (.slice A0 r.Records.length c0) ∧ w'.cell? ⟨g, 2, none⟩ = some (.int .i64 r.Written) ∧ w'.cell? ⟨g, 3, none⟩ = some (.int .i64 r.Lost)) ((repeat' apply And.intro) <;> (first | ((repeat (first | assumption | with_reducible refine gro_keeps ?_ _ _ | with_reducible refine alloc_keeps ?_ _ | with_reducible refine drew_keeps ?_)); done) | (simp [go_sem]; done))) (first
          | (go_at_call 16; (with_reducible refine (ringBytes_s (r := r) (Ty.up _ k0 (by repeat (first | with_reducible exact Gro.refl _ | with_reducible exact Gro.refl_drew _ _ _ | with_reducible exact Gro.refl_drewN _ _ _ _ | assumption | with_reducible apply Gro.more | with_reducible apply Gro.alloc | with_reducible apply Gro.drew | with_reducible apply Gro.drewN))) hsum).mono ?_); rw [HV.out]; rintro e w7 ⟨rfl, os7, d7, rfl⟩))
        have h2 := set4 eg (.int .i64 r'.Capacity) (.slice A5 r'.Records.length c5) (.int .i64 r'.Written) (.int .i64 r'.Lost)
        have hz2 := h2.2.size
        have hok1 : ((ok != ok) : Bool) = false := by cases ok <;> rfl
        cases ok
        · have HN := hn rfl
          go_wp2_with (fail)
          go_roundw
          case measure => simp [intOf]; omega
          case rel =>
            refine ⟨k + 1, r', put, got, t + 1, A5, c5, A1, c1, A2, c2, T0, S1, S2, rfl, rfl, by go_num, by go_num, by omega, HN, (h2.2.gro (hG.trans hGZ) (fun b hb => by simp at hb; omega)).trans (by (repeat (first | with_reducible exact Gro.refl _ | with_reducible exact Gro.refl_drew _ _ _ | with_reducible exact Gro.refl_drewN _ _ _ _ | assumption | with_reducible apply Gro.more | with_reducible apply Gro.alloc | with_reducible apply Gro.drew | with_reducible apply Gro.drewN)); done), hps, Lib.hid ?_, ?_, ?_, ?_, Lib.hid ?_, hl1, hl2, Lib.hid ?_, Lib.hid ?_, hd12⟩
            · exact grow_blk h2.1 (by (repeat (first | with_reducible exact Gro.refl _ | with_reducible exact Gro.refl_drew _ _ _ | with_reducible exact Gro.refl_drewN _ _ _ _ | assumption | with_reducible apply Gro.more | with_reducible apply Gro.alloc | with_reducible apply Gro.drew | with_reducible apply Gro.drewN)); done)
            · exact (j0'.keep h2.2 (fun b hb hm => by have := hjl b hb; simp at hm; omega)).gro (by (repeat (first | with_reducible exact Gro.refl _ | with_reducible exact Gro.refl_drew _ _ _ | with_reducible exact Gro.refl_drewN _ _ _ _ | assumption | with_reducible apply Gro.more | with_reducible apply Gro.alloc | with_reducible apply Gro.drew | with_reducible apply Gro.drewN)); done)
            · exact ((hH1.gro hGZ).keep h2.2 (fun b hb hm => by have := hl1.out b hb; simp at hm; omega)).gro (by (repeat (first | with_reducible exact Gro.refl _ | with_reducible exact Gro.refl_drew _ _ _ | with_reducible exact Gro.refl_drewN _ _ _ _ | assumption | with_reducible apply Gro.more | with_reducible apply Gro.alloc | with_reducible apply Gro.drew | with_reducible apply Gro.drewN)); done)
            · exact ((hH2.gro hGZ).keep h2.2 (fun b hb hm => by have := hl2.out b hb; simp at hm; omega)).gro (by (repeat (first | with_reducible exact Gro.refl _ | with_reducible exact Gro.refl_drew _ _ _ | with_reducible exact Gro.refl_drewN _ _ _ _ | assumption | with_reducible apply Gro.more | with_reducible apply Gro.alloc | with_reducible apply Gro.drew | with_reducible apply Gro.drewN)); done)
            · exact fun b hb => by have := hjl b hb; omega
            · exact fun b hb hm => by have h1 := hjl b hb; have h3 := hlt1 b hm; omega
            · exact fun b hb hm => by have h1 := hjl b hb; have h3 := hlt2 b hm; omega
        · have HY := hy rfl
          go_wp2_with (((refine wpList_append_hasf (L := put.length + 1) (y := s) rfl (.tmp 73) (.tmp 75) el_str flat_str (S := S1) ((hH1.gro hGZ).gro (by (repeat (first | with_reducible exact Gro.refl _ | with_reducible exact Gro.refl_drew _ _ _ | with_reducible exact Gro.refl_drewN _ _ _ _ | assumption | with_reducible apply Gro.more | with_reducible apply Gro.alloc | with_reducible apply Gro.drew | with_reducible apply Gro.drewN)); done)) (ec := [.string s]) (W1 := w) (B := 0) ⟨rfl, by omega⟩ rfl rfl rfl (by intro j u hu; simpa [go_sem] using hu) rfl (by omega) (by omega) ?_)); intro A7 c7 W7 S7 hon hH7 hS7; have hgn1 : g ∉ S1 := fun hm => (by have := hl1.out g hm; omega); have hnn1 : n ∉ S1 := fun hm => (by have := hlt1 n hm; omega); have eg7 := (hon.block g (by simp; omega) hgn1).trans (grow_blk eg (by (repeat (first | with_reducible exact Gro.refl _ | with_reducible exact Gro.refl_drew _ _ _ | with_reducible exact Gro.refl_drewN _ _ _ _ | assumption | with_reducible apply Gro.more | with_reducible apply Gro.alloc | with_reducible apply Gro.drew | with_reducible apply Gro.drewN)); done)); have ez7 := (hon.block n (by simp; omega) hnn1).trans (grow_blk ez (by (repeat (first | with_reducible exact Gro.refl _ | with_reducible exact Gro.refl_drew _ _ _ | with_reducible exact Gro.refl_drewN _ _ _ _ | assumption | with_reducible apply Gro.more | with_reducible apply Gro.alloc | with_reducible apply Gro.drew | with_reducible apply Gro.drewN)); done)); obtain ⟨p0, p1, p2, p3, pf⟩ := box4 eg7; obtain ⟨q0, q1, q2, q3, qf⟩ := box4 ez7; have pf0 := pf 0; have pf1 := pf 1; have pf2 := pf 2; have pf3 := pf 3; have hgl7 : g < W7.heap.size := (Array.getElem?_eq_some_iff.1 eg7).1; have hnl7 : n < W7.heap.size := (Array.getElem?_eq_some_iff.1 ez7).1; clear pf qf)
          go_roundw
          case measure => simp [intOf]; omega
          case rel =>
            have h7 := set4 eg7 (.int .i64 r'.Capacity) (.slice A5 r'.Records.length c5) (.int .i64 r'.Written) (.int .i64 r'.Lost)
            have hon7 : ∀ b ∈ S1, w.heap.size ≤ b := fun b hb => by have := hl1.out b hb; omega
            have hGW := hon.gro (W0 := w) ((hG.trans hGZ).trans (by (repeat (first | with_reducible exact Gro.refl _ | with_reducible exact Gro.refl_drew _ _ _ | with_reducible exact Gro.refl_drewN _ _ _ _ | assumption | with_reducible apply Gro.more | with_reducible apply Gro.alloc | with_reducible apply Gro.drew | with_reducible apply Gro.drewN)); done)) hon7
            refine ⟨k + 1, r', put ++ [s], got, t + 1, A5, c5, A7, c7, A2, c2, T0, S7, S2, by rw [List.length_append]; rfl, rfl, by go_num, by go_num, by omega, HY, h7.2.gro hGW (fun b hb => by simp at hb; omega), ?_, Lib.hid h7.1, ?_, ?_, ?_, Lib.hid ?_, Lib.hid ?_, hl2, Lib.hid ?_, Lib.hid ?_, Lib.hid ?_⟩
            · intro u hu
              rcases List.mem_append.1 hu with h | h
              · exact hps u h
              · rw [List.mem_singleton] at h
                subst h
                omega
            · exact ((j0'.gro (by (repeat (first | with_reducible exact Gro.refl _ | with_reducible exact Gro.refl_drew _ _ _ | with_reducible exact Gro.refl_drewN _ _ _ _ | assumption | with_reducible apply Gro.more | with_reducible apply Gro.alloc | with_reducible apply Gro.drew | with_reducible apply Gro.drewN)); done)).keep hon (fun b hb hm => by have h1 := hjl b hb; have h3 := hlt1 b hm; omega)).keep h7.2 (fun b hb hm => by have := hjl b hb; simp at hm; omega)
            · rw [List.length_append]
              exact hH7.keep h7.2 (fun b hb hm => by
                simp at hm
                subst hm
                rcases hS7 b hb with h | h
                · exact hgn1 h
                · simp at h; omega)
            · exact (((hH2.gro hGZ).gro (by (repeat (first | with_reducible exact Gro.refl _ | with_reducible exact Gro.refl_drew _ _ _ | with_reducible exact Gro.refl_drewN _ _ _ _ | assumption | with_reducible apply Gro.more | with_reducible apply Gro.alloc | with_reducible apply Gro.drew | with_reducible apply Gro.drewN)); done)).keep hon (fun b hb hm => hd12.out b hm hb)).keep h7.2 (fun b hb hm => by have := hl2.out b hb; simp at hm; omega)
            · exact fun b hb => by have := hjl b hb; omega
            · intro b hb
              rcases hS7 b hb with h | h
              · exact hl1.out b h
              · simp at h; omega
            · intro b hb hm
              rcases hS7 b hm with h | h
              · have h1 := hjl b hb; have h3 := hlt1 b h; omega
              · have h1 := j0'.lt b hb; simp at h; omega
            · exact fun b hb hm => by have h1 := hjl b hb; have h3 := hlt2 b hm; omega
            · intro b hb hm
              rcases hS7 b hb with h | h
              · exact hd12.out b h hm
              · have h3 := hlt2 b hm; simp at h; omega
    · obtain rfl : k = 24 := by omega
      obtain ⟨r', hT⟩ := hrc.rest (by omega)
      have HT := Lib.hid hT
      have hbd := ringOk_bd hrc.ok
      have hsum : sumS r.Records ≤ 1099511627776 := by omega
      have hI0 : I64 r.Capacity := ⟨by omega, by omega⟩
      have hI1 : I64 r.Written := ⟨by omega, by omega⟩
      have hI2 : I64 r.Lost := ⟨by omega, by omega⟩
      have hgl : g < wr.heap.size := (Array.getElem?_eq_some_iff.1 hbx.out).1
      obtain ⟨y0, y1, y2, y3, yf⟩ := box4 hbx.out
      clear yf hT
      go_wp2_with (first
        | (go_at_call 13; (with_reducible refine (take_i (r := r) (n := 1000) hI0 (Ty.up _ hH0.read (by repeat (first | with_reducible exact Gro.refl _ | with_reducible exact Gro.refl_drew _ _ _ | with_reducible exact Gro.refl_drewN _ _ _ _ | assumption | with_reducible apply Gro.more | with_reducible apply Gro.alloc | with_reducible apply Gro.drew | with_reducible apply Gro.drewN))) hI1 hI2 (by omega) hsum).mono ?_); rw [HT.out]; rintro e w5 ⟨A5, c5, A6, c6, rfl, hF5, os5, d5, rfl⟩))
      obtain ⟨T0, T1, j0, j1, j2, j3, j4⟩ := ring_strs hF5
      have kP := (hH1.gro (show Gro wr (gro wr os5 d5) from Gro.of _ _ _)).read
      have kG := (hH2.gro (show Gro wr (gro wr os5 d5) from Gro.of _ _ _)).read
      have kR := (hH0.gro (show Gro wr (gro wr os5 d5) from Gro.of _ _ _)).read
      have kL := j1.read
      have HALL := Lib.hid hrc.all
      have hw1 : (r.Written == (put.length : Int)) = true := by rw [hrc.wr]; exact beq_self_eq_true _
      have hs1 : IntKind.i64.wrap (r.Written + r.Lost) = t := by rw [hrc.sum]; exact IntWalk.i64_in _ ⟨by omega, by omega⟩
      have hs2 : (t == t) = true := beq_self_eq_true _
      have HRB := Lib.hid (show ringBytesV r = (sumS r.Records : Int) from by unfold ringBytesV; rw [if_pos hrc.ok])
      have hle : (sumS r.Records : Int) ≤ r.Capacity := hbd.2.2.1
      have HOK := Lib.hid hrc.ok
      have hll : got.length + r.Records.length ≤ 1000 := by omega
      have hcons : Gro w (gro wr os5 d5) := hG.more _ _
      clear hF5 hbd hb2 HB0 hcap HQ HBK
      go_region_held3 (fun w' => w'.cell? ⟨g, 0, none⟩ = some (.int .i64 r.Capacity) ∧ w'.cell? ⟨g, 1, none⟩ = some (.slice A0 r.Records.length c0) ∧ w'.cell? ⟨g, 2, none⟩ = some (.int .i64 r.Written) ∧ w'.cell? ⟨g, 3, none⟩ = some (.int .i64 r.Lost)) ((repeat' apply And.intro) <;> (first | ((repeat (first | assumption | with_reducible refine gro_keeps ?_ _ _ | with_reducible refine alloc_keeps ?_ _ | with_reducible refine drew_keeps ?_)); done) | (simp [go_sem]; done))) (first
        | (go_at_call 18; (with_reducible refine (copyTexts_l (xs := got) (Ty.up _ kG (by (repeat (first | with_reducible exact Gro.refl _ | with_reducible exact Gro.refl_drew _ _ _ | with_reducible exact Gro.refl_drewN _ _ _ _ | assumption | with_reducible apply Gro.more | with_reducible apply Gro.alloc | with_reducible apply Gro.drew | with_reducible apply Gro.drewN)); done)) (by omega)).mono ?_); rintro e w6 ⟨A7, c7, rfl, hF7, os6, d6, rfl⟩)
        | (refine step_append_flat (L := got.length + r.Records.length) rfl (.tmp 86) (.tmp 87) el_str flat_str ((hF7.since (w0 := gro wr os5 d5) (by simp)).gro ?_) ?_ (Ty.up _ kL ?_) rfl rfl rfl rfl (by omega) (by omega) ?_; (repeat' (first | with_reducible exact Gro.refl _ | with_reducible exact Gro.refl_drew _ _ _ | with_reducible exact Gro.refl_drewN _ _ _ _ | assumption | with_reducible apply Gro.more | with_reducible apply Gro.alloc | with_reducible apply Gro.drew | with_reducible apply Gro.drewN)); intro A8 c8 os8 d8 hF8)
        | (go_at_call 17; (with_reducible refine (sameTexts_n (xs := got ++ r.Records) (ys := put) (by rw [List.length_append]) (Ty.up _ hF8.read (by (repeat (first | with_reducible exact Gro.refl _ | with_reducible exact Gro.refl_drew _ _ _ | with_reducible exact Gro.refl_drewN _ _ _ _ | assumption | with_reducible apply Gro.more | with_reducible apply Gro.alloc | with_reducible apply Gro.drew | with_reducible apply Gro.drewN)); done)) (Ty.up _ kP (by (repeat (first | with_reducible exact Gro.refl _ | with_reducible exact Gro.refl_drew _ _ _ | with_reducible exact Gro.refl_drewN _ _ _ _ | assumption | with_reducible apply Gro.more | with_reducible apply Gro.alloc | with_reducible apply Gro.drew | with_reducible apply Gro.drewN)); done)) HALL.out).mono ?_); rintro e w9 ⟨rfl, os9, d9, rfl⟩)
        | (go_at_call 19; (with_reducible refine (ringBytes_i (r := r) (Ty.up _ kR (by repeat (first | with_reducible exact Gro.refl _ | with_reducible exact Gro.refl_drew _ _ _ | with_reducible exact Gro.refl_drewN _ _ _ _ | assumption | with_reducible apply Gro.more | with_reducible apply Gro.alloc | with_reducible apply Gro.drew | with_reducible apply Gro.drewN))) hsum).mono ?_); rw [HRB.out]; rintro e w10 ⟨rfl, os10, d10, rfl⟩)
        | (go_at_call 20; (with_reducible refine (ringOk_i (r := r) (Ty.up _ kR (by repeat (first | with_reducible exact Gro.refl _ | with_reducible exact Gro.refl_drew _ _ _ | with_reducible exact Gro.refl_drewN _ _ _ _ | assumption | with_reducible apply Gro.more | with_reducible apply Gro.alloc | with_reducible apply Gro.drew | with_reducible apply Gro.drewN))) hsum).mono ?_); rw [HOK.out]; rintro e w11 ⟨rfl, os11, d11, rfl⟩)
        | fail)
      go_wp2_with (fail)
      go_ret
      exact ⟨rfl, (by repeat (first | with_reducible exact Gro.refl _ | with_reducible exact Gro.refl_drew _ _ _ | with_reducible exact Gro.refl_drewN _ _ _ _ | assumption | with_reducible apply Gro.more | with_reducible apply Gro.alloc | with_reducible apply Gro.drew | with_reducible apply Gro.drewN))⟩

set_option maxRecDepth 100000 in
theorem lifted (os : Os) (started : os.Started) (H : Type) (enc : TypeId × Value → H) :
    ReturnsInHanded {} Try.checked os 4 .any (Rows.fnRingCountsSpec.pre6 enc Try.prog Try.f4 Rows.fnRingCountsRow.domain false) (Rows.fnRingCountsSpec.post enc Try.prog Try.f4 false true false false) := by
  refine returnsInHanded_of_change (C := Try.checked) own started (by kernel_rfl) Try.func4
    (ChangeSpec.witness6 (enc := enc) (C := Try.checked) false ⟨#[], #[.slice none 0 0], []⟩ 8 (by kernel_rfl) (by kernel_rfl) (by kernel_rfl) (by kernel_rfl)) ?_
  intro W base args ds gs before hval0 hW hcnd _
  have hval : ∀ (j : Nat) t v, Try.f4.params[j]? = some t → args[j]? = some v → Value.okWide Try.prog W .any base t v := hval0
  have hW' := hW
  obtain ⟨p, q, hA0, hV, rfl, hfz, hnd⟩ := hW
  have hA : DataW.TrodAll enc Try.prog W 0 (fun _ => true) true Try.f4.params.toList args.toList ds p := hA0
  rw [Try.params4] at hA hval
  obtain ⟨v0, vs0, d0, ds0, p0, q0, hargs, rfl, rfl, h0, r0⟩ := trodAll_cons hA
  obtain ⟨rfl, rfl, rfl⟩ := trodAll_nil r0
  obtain rfl : args = #[v0] := by cases args; simp_all
  obtain ⟨rfl, rfl⟩ := trodVars_none hV
  have k0 := h0
  have lt0 : ∀ x ∈ p0, x.block < W.heap.size := by obtain ⟨m, hm⟩ := k0; exact DataW.trod_lt m _ _ _ hm
  obtain ⟨a0, w0⟩ := arg_open (opens_sl (e' := 5) Try.underlying33 (by kernel_rfl) (by decide) (opens_byte Try.underlying5)) h0
  rw [arg_slice Try.underlying33 (hval 0 33 v0 rfl rfl)] at w0
  clear hA0 hval0
  refine (walk W v0 a0 w0).mono fun e W' ⟨he, hgro⟩ => ?_
  subst he
  have bel := hgro.below
  exact ⟨_, rfl, _, _, _, [], _, [], hW', trodAll_mk1 (shut_bool Try.underlying4 _), (trodAll_cons_mk (Below.trod laidOut (by kernel_rfl) (of_decide_eq_true (by kernel_rfl)) k0 bel lt0) trodAll_mk0), rfl, bel.frame _, fun h => by cases h⟩
theorem over : Rows.fnRingCountsRow.holds Try.pinned (OpenSpec.ofChange Rows.fnRingCountsSpec) :=
  OpenClaim.holds_of_wide 4 Try.f4 rfl rfl rfl rfl rfl rfl rfl ⟨rfl, rfl, rfl, rfl, rfl⟩ rfl rfl rfl rfl rfl (by kernel_rfl) Try.func4 (by kernel_rfl)
    (of_decide_eq_true (by kernel_rfl)) (by unfold Func.isWrapper; first | (rw [if_pos (by decide +kernel)]; kernel_rfl) | (rw [if_neg (by decide +kernel)]; exact ⟨rfl, rfl⟩))
    (fun os started H enc _ => lifted os started H enc)
/-- THE STATEMENT -/
theorem proved : Rows.FnRingCountsSaid := over
#print axioms proved
end Go.Proofs.Ytdlkoffandhclaa.fnRingCounts
