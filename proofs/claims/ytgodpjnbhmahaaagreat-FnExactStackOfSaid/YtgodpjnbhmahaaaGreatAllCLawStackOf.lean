/-
  PART 3 of the texts of this claim, one behind the other: contracts and laws that the last part uses.
-/
import Derived.Test.YtgodpjnbhmahaaaGreatAllBLawStackOf
import Derived.Deep.CutRange
set_option linter.unusedVariables false
set_option linter.unusedSimpArgs false
namespace Go.Proofs.YtgodpjnbhmahaaaGreat
open Go.RowKit
theorem add8_step {m j b : Nat} (hb : b < 256) (hj : j < 4) (hm : m < 256 ^ j) : IntKind.i64.wrap ((m : Int) + wrap64 ((b : Int) * 2 ^ (8 * j))) = ((m + b * 256 ^ j : Nat) : Int) := by
  have hp : 256 ^ (j + 1) ≤ 4294967296 := by
    have h := Nat.pow_le_pow_right (show 0 < 256 by omega) (show j + 1 ≤ 4 by omega)
    exact h
  have hmul : b * 256 ^ j ≤ 255 * 256 ^ j := Nat.mul_le_mul_right _ (by omega)
  have hs : (256 : Nat) ^ (j + 1) = 256 * 256 ^ j := by rw [Nat.pow_succ, Nat.mul_comm]
  have e0 : (2 : Int) ^ (8 * j) = ((256 ^ j : Nat) : Int) := by
    rw [Int.pow_mul, show (2 : Int) ^ 8 = ((256 : Nat) : Int) from by decide]
    exact (Int.natCast_pow 256 j).symm
  have e1 : ((b : Int) * 2 ^ (8 * j)) = ((b * 256 ^ j : Nat) : Int) := by rw [e0, ← Int.natCast_mul]
  rw [e1, wrap64_small (by omega) (by omega), ← Int.natCast_add]
  exact IntWalk.i64_in _ ⟨by omega, by omega⟩
set_option maxRecDepth 100000 in
set_option maxHeartbeats 4000000 in
theorem decodeOp_s (s : ByteArray) (a : Int) (w : World) (hs : s.size ≤ 1099511627776) (ha : I64 a) : Calls Tryz.prog 269 #[.string s, .int .i64 a] w (RetOp (decOp s a) w) := by
  obtain ⟨ha1, ha2⟩ := ha
  cases hb : btw a 0 ((s.size : Int) - 1)
  · have HD := Lib.hid (decOp_no (s := s) (a := a) (fun h => by rw [btw_mk (by omega) (by omega)] at hb; cases hb))
    have hout : a < 0 ∨ (0 ≤ a ∧ (s.size : Int) ≤ a) := by
      rcases Int.lt_or_le a 0 with h | h
      · exact .inl h
      · refine .inr ⟨h, ?_⟩
        have : ¬ a ≤ (s.size : Int) - 1 := fun h2 => by rw [btw_mk h h2] at hb; cases hb
        omega
    clear hb
    rcases hout with h | ⟨h, h'⟩
    · have q0 : decide (a < 0) = true := decide_eq_true h
      go_enter Tryz.func269, Tryz.ntmps269
      go_wp2_with (fail)
      exact bodyPost_ret (v := .tuple #[.agg #[.int .i64 0, .int .i64 0], .int .i64 0, .bool false]) (by simp [results, Tryz.results269, go_sem]) rfl (ret_op (q := ⟨0, 0, 0, false⟩) HD.out gG)
    · have q0 : decide (a < 0) = false := decide_eq_false (by omega)
      have q1 : decide ((s.size : Int) ≤ a) = true := decide_eq_true h'
      go_enter Tryz.func269, Tryz.ntmps269
      go_wp2_with (fail)
      exact bodyPost_ret (v := .tuple #[.agg #[.int .i64 0, .int .i64 0], .int .i64 0, .bool false]) (by simp [results, Tryz.results269, go_sem]) rfl (ret_op (q := ⟨0, 0, 0, false⟩) HD.out gG)
  · obtain ⟨hb1, hb2⟩ := btw_iff.1 hb
    clear hb
    obtain ⟨a, rfl⟩ := Int.eq_ofNat_of_zero_le hb1
    have q0 : decide ((a : Int) < 0) = false := decide_eq_false (by omega)
    have q1 : decide ((s.size : Int) ≤ (a : Int)) = false := decide_eq_false (by omega)
    have hlt : a < s.size := by omega
    have hbn := byteN_get hlt
    obtain ⟨c, hc⟩ : ∃ c, byteN s a = c := ⟨_, rfl⟩
    have hc255 : c < 256 := hc ▸ byteN_lt s a
    rw [hc] at hbn
    have hx0 : 0 ≤ (s[a].toNat : Int) ∧ (s[a].toNat : Int) ≤ 255 := by omega
    by_cases hc17 : c ≤ 17
    case neg =>
      have HD := Lib.hid (decOp_no (s := s) (a := (a : Int)) (fun h => by rw [Int.toNat_natCast, hc] at h; exact hc17 h.2.2.1))
      have HZ := Lib.hid (show opSize (s[a].toNat : Int) = 0 from by rw [← hbn, opSize_def, if_neg (by simp [btw]; omega)])
      obtain ⟨n, sg, hw⟩ : ∃ n sg, opW (s[a].toNat : Int) = (n, sg) := ⟨_, _, rfl⟩
      have hn4 : n ≤ 4 := by have := opW_le (s[a].toNat : Int); rw [hw] at this; exact this
      have HW := Lib.hid hw
      clear hw
      go_enter Tryz.func269, Tryz.ntmps269
      go_wp2_with (first
        | (go_at_call 199; (with_reducible refine (opSize_s _ _).mono ?_); rw [HZ.out]; rintro e w1 ⟨rfl, rfl⟩)
        | (go_at_call 307; (with_reducible refine (width_s _ _).mono ?_); rw [HW.out]; rintro e w1 ⟨rfl, rfl⟩))
      exact bodyPost_ret (v := .tuple #[.agg #[.int .i64 0, .int .i64 0], .int .i64 0, .bool false]) (by simp [results, Tryz.results269, go_sem]) rfl (ret_op (q := ⟨0, 0, 0, false⟩) HD.out gG)
    obtain ⟨n, sg, hw⟩ : ∃ n sg, opW (c : Int) = (n, sg) := ⟨_, _, rfl⟩
    have hcs := opW_cases (c : Int)
    rw [hw] at hcs
    have hn4 : n ≤ 4 := by have := opW_le (c : Int); rw [hw] at this; exact this
    have HZ := Lib.hid (show opSize (s[a].toNat : Int) = (n : Int) + 1 from by rw [← hbn, opSize_def, if_pos (btw_mk (by omega) (by omega)), hw])
    have HW := Lib.hid (show opW (s[a].toNat : Int) = (n, sg) from by rw [← hbn]; exact hw)
    by_cases hfit : a + 1 + n ≤ s.size
    case neg =>
      have HD := Lib.hid (decOp_no (s := s) (a := (a : Int)) (fun h => by rw [Int.toNat_natCast, hc, hw] at h; exact hfit h.2.2.2))
      have hg1 : ((n : Int) + 1 == 0) = false := by simp; omega
      have hg2 : decide ((s.size : Int) < (a : Int) + 1 + (n : Int)) = true := decide_eq_true (by omega)
      clear hw hc hbn
      go_enter Tryz.func269, Tryz.ntmps269
      go_wp2_with (first
        | (go_at_call 199; (with_reducible refine (opSize_s _ _).mono ?_); rw [HZ.out]; rintro e w1 ⟨rfl, rfl⟩)
        | (go_at_call 307; (with_reducible refine (width_s _ _).mono ?_); rw [HW.out]; rintro e w1 ⟨rfl, rfl⟩))
      exact bodyPost_ret (v := .tuple #[.agg #[.int .i64 0, .int .i64 0], .int .i64 0, .bool false]) (by simp [results, Tryz.results269, go_sem]) rfl (ret_op (q := ⟨0, 0, 0, false⟩) HD.out gG)
    have HD := Lib.hid (decOp_yes hlt hc hc17 hw hfit)
    have hg1 : ((n : Int) + 1 == 0) = false := by simp; omega
    have hg2 : decide ((s.size : Int) < (a : Int) + 1 + (n : Int)) = false := decide_eq_false (by omega)
    clear hw hc
    go_enter Tryz.func269, Tryz.ntmps269
    go_wp2_with (first
      | (go_at_call 199; (with_reducible refine (opSize_s _ _).mono ?_); rw [HZ.out]; rintro e w1 ⟨rfl, rfl⟩)
      | (go_at_call 307; (with_reducible refine (width_s _ _).mono ?_); rw [HW.out]; rintro e w1 ⟨rfl, rfl⟩))
    have hG : Gro w ((w.alloc (.cells #[.int .i64 0, .int .i64 0] 217)).alloc (.cells #[.int .i64 (s[a].toNat : Int), .int .i64 0] 217)) := gG
    have er : ((w.alloc (.cells #[.int .i64 0, .int .i64 0] 217)).alloc (.cells #[.int .i64 (s[a].toNat : Int), .int .i64 0] 217)).heap[w.heap.size]? = some (.cells #[.int .i64 0, .int .i64 0] 217 (0, 0)) := grow_blk (heap_alloc_new w _) gF
    have ex : ((w.alloc (.cells #[.int .i64 0, .int .i64 0] 217)).alloc (.cells #[.int .i64 (s[a].toNat : Int), .int .i64 0] 217)).heap[w.heap.size + 1]? = some (.cells #[.int .i64 (s[a].toNat : Int), .int .i64 0] 217 (0, 0)) := by
      have h := heap_alloc_new (w.alloc (.cells #[.int .i64 0, .int .i64 0] 217)) (.cells #[.int .i64 (s[a].toNat : Int), .int .i64 0] 217)
      rw [World.size_alloc] at h
      exact h
    obtain ⟨g, hg⟩ : ∃ g, w.heap.size = g := ⟨_, rfl⟩
    rw [hg] at er ex ⊢
    generalize ((w.alloc (.cells #[.int .i64 0, .int .i64 0] 217)).alloc (.cells #[.int .i64 (s[a].toNat : Int), .int .i64 0] 217)) = Y at hG er ex ⊢
    go_loopw [10] (fun x wr => ∃ (j : Nat), x = .int .i64 j ∧ j ≤ n ∧ Hid (wr.heap[g + 1]? = some (.cells #[.int .i64 (s[a].toNat : Int), .int .i64 (argU s (a + 1) j : Nat)] 217 (0, 0))) ∧ Hid (wr.heap[g]? = some (.cells #[.int .i64 0, .int .i64 0] 217 (0, 0))) ∧ Hid (Gro w wr)) (fun x _ => n - (intOf x).toNat)
    case atStart => exact ⟨0, rfl, by omega, Lib.hid ex, Lib.hid er, Lib.hid hG⟩
    case round =>
      clear hG er ex
      obtain ⟨j, rfl, hj, hx, hr, hG⟩ := hrel
      obtain ⟨x0, x1, xf0, xf1, xl⟩ := box2 hx.out
      by_cases hjn : j < n
      · have hin : a + 1 + j < s.size := by omega
        have hb := byteN_get hin
        have hb2 : 0 ≤ (s[a + 1 + j].toNat : Int) ∧ (s[a + 1 + j].toNat : Int) ≤ 255 := by have := s[a + 1 + j].toNat_lt; omega
        have hul := argU_lt s (a + 1) j
        have hor := add8_step (m := argU s (a + 1) j) (j := j) (b := s[a + 1 + j].toNat) (by omega) (by omega) hul
        have hun : argU s (a + 1) j + s[a + 1 + j].toNat * 256 ^ j = argU s (a + 1) (j + 1) := by rw [argU, hb]
        rw [hun] at hor
        have hul2 : argU s (a + 1) j < 4294967296 := Nat.lt_of_lt_of_le hul (Nat.pow_le_pow_right (by omega) (show j ≤ 4 by omega))
        obtain ⟨u, hu⟩ : ∃ u, argU s (a + 1) j = u := ⟨_, rfl⟩
        obtain ⟨v, hv⟩ : ∃ v, argU s (a + 1) (j + 1) = v := ⟨_, rfl⟩
        rw [hu] at hor x1 hul2
        rw [hv] at hor
        have HV := Lib.hid hv
        clear hul hun hb hu hv
        have hjn2 : (j : Int) < (n : Int) := by omega
        have w1 : IntKind.i64.wrap ((a : Int) + 1) = (a : Int) + 1 := IntWalk.i64_in _ (by omega)
        have w2 : IntKind.i64.wrap ((a : Int) + 1 + j) = (a : Int) + 1 + j := IntWalk.i64_in _ (by omega)
        have w3 : (0 : Int) ≤ (a : Int) + 1 + j := by omega
        have w4 : (a : Int) + 1 + j < s.size := by omega
        go_wp2_with (fail)
        go_region
        go_wp2_with (fail)
        have h2 := set2b hx.out (.int .i64 v)
        go_roundw
        case measure => (simp [intOf]; try omega)
        case rel => exact ⟨j + 1, by go_num, by omega, Lib.hid (by rw [HV.out]; exact h2.1), Lib.hid ((h2.2.block g (by omega) (by simp)).trans hr.out), Lib.hid ((h2.2.gro hG.out (fun b hb => by simp at hb; omega)).drew)⟩
      · obtain rfl : j = n := by omega
        have hul := argU_lt s (a + 1) j
        obtain ⟨u, hu⟩ : ∃ u, argU s (a + 1) j = u := ⟨_, rfl⟩
        rw [hu] at hul x1 HD
        have h0 := hr.out
        have hxo := hx.out
        rw [hu] at hxo
        clear hx hr
        obtain ⟨r0, r1, rf0, rf1, rl⟩ := box2 h0
        have hsg : (sg = true ∧ 2 ^ (8 * j - 1) ≤ u) ∨ ¬ (sg = true ∧ 2 ^ (8 * j - 1) ≤ u) := Classical.em _
        clear hu HZ HW hfit hg1 hg2
        rcases hsg with hsg | hsg
        · have hdd : decOp s (a : Int) = ⟨(c : Int), (u : Int) - 2 ^ (8 * j), j + 1, true⟩ := by rw [HD.out]; unfold argS; rw [if_pos hsg]
          have HQ := Lib.hid hdd
          obtain ⟨rfl, hsg⟩ := hsg
          clear hdd HD
          simp only [Prod.mk.injEq, Bool.true_eq_false, and_true, and_false, or_false, false_or] at hcs
          rcases hcs with rfl | rfl
          · skip
            have hge : (2147483648 : Int) ≤ (u : Int) := by simp at hsg; omega
            have hul3 : (u : Int) < 4294967296 := by simp at hul; omega
            have hw1 : IntKind.i64.wrap ((u : Int) - 4294967296) = (u : Int) - 4294967296 := IntWalk.i64_in _ ⟨by omega, by omega⟩
            clear hul hsg
            go_wp2_with (fail)
            go_region
            go_wp2_with (fail)
            go_region
            go_wp2_with (fail)
            have hk := set2b hxo (.int .i64 ((u : Int) - 4294967296))
            have h1 := (hk.2.block g (by omega) (by simp)).trans h0
            have h2 := set2 h1 (.int .i64 (s[a].toNat : Int)) (.int .i64 ((u : Int) - 4294967296))
            have hz := box2 h2.1
            refine bodyPost_ret (v := .tuple #[.agg #[.int .i64 (s[a].toNat : Int), .int .i64 ((u : Int) - 4294967296)], .int .i64 ((1 + 4 : Nat) : Int), .bool true]) (by simp [results, Tryz.results269, go_sem, hz, rl]) rfl ?_
            exact ret_op (q := ⟨(s[a].toNat : Int), (u : Int) - 4294967296, 1 + 4, true⟩) (by rw [HQ.out, hbn]; try (first | rfl | rw [Nat.add_comm])) ((h2.2.gro (hk.2.gro hG.out (fun b hb => by simp at hb; omega)) (fun b hb => by simp at hb; omega)).trans gF)
          · skip
            have hge : (32768 : Int) ≤ (u : Int) := by simp at hsg; omega
            have hul3 : (u : Int) < 65536 := by simp at hul; omega
            have hw1 : IntKind.i64.wrap ((u : Int) - 65536) = (u : Int) - 65536 := IntWalk.i64_in _ ⟨by omega, by omega⟩
            clear hul hsg
            go_wp2_with (fail)
            go_region
            go_wp2_with (fail)
            go_region
            go_wp2_with (fail)
            have hk := set2b hxo (.int .i64 ((u : Int) - 65536))
            have h1 := (hk.2.block g (by omega) (by simp)).trans h0
            have h2 := set2 h1 (.int .i64 (s[a].toNat : Int)) (.int .i64 ((u : Int) - 65536))
            have hz := box2 h2.1
            refine bodyPost_ret (v := .tuple #[.agg #[.int .i64 (s[a].toNat : Int), .int .i64 ((u : Int) - 65536)], .int .i64 ((1 + 2 : Nat) : Int), .bool true]) (by simp [results, Tryz.results269, go_sem, hz, rl]) rfl ?_
            exact ret_op (q := ⟨(s[a].toNat : Int), (u : Int) - 65536, 1 + 2, true⟩) (by rw [HQ.out, hbn]; try (first | rfl | rw [Nat.add_comm])) ((h2.2.gro (hk.2.gro hG.out (fun b hb => by simp at hb; omega)) (fun b hb => by simp at hb; omega)).trans gF)
        · have hdd : decOp s (a : Int) = ⟨(c : Int), (u : Int), j + 1, true⟩ := by rw [HD.out]; unfold argS; rw [if_neg hsg]
          have HQ := Lib.hid hdd
          clear hdd HD
          cases sg with
          | false =>
            clear hsg hcs hul
            go_wp2_with (fail)
            go_region
            go_wp2_with (fail)
            have h2 := set2 h0 (.int .i64 (s[a].toNat : Int)) (.int .i64 ((u : Int)))
            have hz := box2 h2.1
            refine bodyPost_ret (v := .tuple #[.agg #[.int .i64 (s[a].toNat : Int), .int .i64 ((u : Int))], .int .i64 ((1 + j : Nat) : Int), .bool true]) (by simp [results, Tryz.results269, go_sem, hz, rl]) rfl ?_
            exact ret_op (q := ⟨(s[a].toNat : Int), (u : Int), 1 + j, true⟩) (by rw [HQ.out, hbn]; try (first | rfl | rw [Nat.add_comm])) ((h2.2.gro hG.out (fun b hb => by simp at hb; omega)).trans gF)
          | true =>
            have hlt2 : ¬ 2 ^ (8 * j - 1) ≤ u := fun h => hsg ⟨rfl, h⟩
            simp only [Prod.mk.injEq, Bool.true_eq_false, and_true, and_false, or_false, false_or] at hcs
            rcases hcs with rfl | rfl
            · have hge : decide ((2147483648 : Int) ≤ (u : Int)) = false := decide_eq_false (by simp at hlt2; omega)
              clear hsg hlt2 hul
              go_wp2_with (fail)
              go_region
              go_wp2_with (fail)
              have h2 := set2 h0 (.int .i64 (s[a].toNat : Int)) (.int .i64 ((u : Int)))
              have hz := box2 h2.1
              refine bodyPost_ret (v := .tuple #[.agg #[.int .i64 (s[a].toNat : Int), .int .i64 ((u : Int))], .int .i64 ((1 + 4 : Nat) : Int), .bool true]) (by simp [results, Tryz.results269, go_sem, hz, rl]) rfl ?_
              exact ret_op (q := ⟨(s[a].toNat : Int), (u : Int), 1 + 4, true⟩) (by rw [HQ.out, hbn]; try (first | rfl | rw [Nat.add_comm])) ((h2.2.gro hG.out (fun b hb => by simp at hb; omega)).trans gF)
            · have hge : decide ((32768 : Int) ≤ (u : Int)) = false := decide_eq_false (by simp at hlt2; omega)
              clear hsg hlt2 hul
              go_wp2_with (fail)
              go_region
              go_wp2_with (fail)
              have h2 := set2 h0 (.int .i64 (s[a].toNat : Int)) (.int .i64 ((u : Int)))
              have hz := box2 h2.1
              refine bodyPost_ret (v := .tuple #[.agg #[.int .i64 (s[a].toNat : Int), .int .i64 ((u : Int))], .int .i64 ((1 + 2 : Nat) : Int), .bool true]) (by simp [results, Tryz.results269, go_sem, hz, rl]) rfl ?_
              exact ret_op (q := ⟨(s[a].toNat : Int), (u : Int), 1 + 2, true⟩) (by rw [HQ.out, hbn]; try (first | rfl | rw [Nat.add_comm])) ((h2.2.gro hG.out (fun b hb => by simp at hb; omega)).trans gF)
end Go.Proofs.YtgodpjnbhmahaaaGreat
namespace Go.Proofs.YtgodpjnbhmahaaaGreat
open Go.RowKit
structure DOp where
  Code : Int
  Arg : Int
  deriving DecidableEq
def tOp : Ty DOp := (intT.prod intT).via fun x => (x.Code, x.Arg)
theorem tOp_mkR {w : World} {B : Nat} {x : DOp}  (h0 : I64 x.Code) (h1 : I64 x.Arg) : tOp.R w B [.int .i64 x.Code, .int .i64 x.Arg] x := by
  exact ⟨[.int .i64 x.Code], [.int .i64 x.Arg], rfl, ⟨rfl, h0.1, h0.2⟩, ⟨rfl, h1.1, h1.2⟩⟩
theorem toOpS_info : (Tryz.prog.info? 217).map (fun i => (i.zero, i.size, i.bytes)) = some (some (.agg #[.int .i64 0, .int .i64 0]), 2, 16) := by kernel_rfl
theorem flatOp : Flat tOp := flat_via _ (flat_prod flat_int flat_int)
theorem elOp : Elem Tryz.prog 314 217 tOp 16 := by
  obtain ⟨i0, hi, hz0, hz1, hz2⟩ := info_parts toOpS_info
  exact ⟨Tryz.underlying314, ⟨i0, _, hi, hz0, hz1, hz2, rfl⟩, by decide⟩
end Go.Proofs.YtgodpjnbhmahaaaGreat
namespace Go.Proofs.YtgodpjnbhmahaaaGreat
open Go.RowKit
def RetDis (b : Bool) (w : World) (e : Ending) (w' : World) : Prop := ∃ A n c, e = .returned (.tuple #[.slice A n c, .bool b]) ∧ Gro w w'
set_option maxRecDepth 100000 in
set_option maxHeartbeats 4000000 in
theorem dis_i (s : ByteArray) (w : World) (hs : s.size ≤ 1099511627776) : Calls Tryz.prog 278 #[.string s] w (RetDis (disOk s 0) w) := by
  go_enter Tryz.func278, Tryz.ntmps278
  go_wp2_with (fail)
  have en := heap_alloc_new w (.cells #[] 217)
  go_loopw [4, 5] (fun x y wr => ∃ (a : Nat) (l : List DOp) (A : Option Addr) (c : Nat) (S : List Nat), x = .slice A l.length c ∧ y = .int .i64 a ∧ a ≤ s.size ∧ l.length ≤ a ∧ Has (tOp.sl 217) wr [.slice A l.length c] l S ∧ (∀ b ∈ S, w.heap.size ≤ b) ∧ Hid (disOk s a = disOk s 0) ∧ Hid (Gro w wr)) (fun _ y _ => s.size - (intOf y).toNat)
  case atStart => exact ⟨0, [], _, 0, [w.heap.size], rfl, rfl, Nat.zero_le _, Nat.le_refl _, Has.emp tOp en, by simp, Lib.hid rfl, Lib.hid gG⟩
  case round =>
    clear en
    obtain ⟨a, l, A, c, S, rfl, rfl, ha, hl, hH, hS, hd, hG⟩ := hrel
    by_cases hlt : a < s.size
    · have ha64 : I64 (a : Int) := ⟨by omega, by omega⟩
      obtain ⟨r, hr⟩ : ∃ r, decOp s (a : Int) = r := ⟨_, rfl⟩
      have hk := decOp_ok hr
      have har := decOp_arg hr
      cases hrk : r.ok with
      | false =>
        have HQ := Lib.hid (show disOk s 0 = false from by rw [← hd.out]; exact disOk_bad hlt (by rw [hr]; exact hrk))
        have hz := decOp_zero hr hrk
        subst hz
        have HR := Lib.hid hr
        clear hr hrk hk
        go_wp2_with (go_at_call 264; (with_reducible refine (decodeOp_i s (a : Int) _ hs ha64).mono ?_); rw [HR.out]; rintro e w4 ⟨rfl, os4, d4, rfl⟩)
        go_ret2
        exact ⟨_, _, _, by rw [HQ.out]; rfl, hG.out.trans gF⟩
      | true =>
        obtain ⟨k0, k1, k2, k3, k4, k5⟩ := hk hrk
        obtain ⟨co, ar, n, okk⟩ := r
        simp only at hrk k0 k1 k2 k3 k4 k5 har
        subst hrk
        have HST := Lib.hid (show disOk s (a + n) = disOk s 0 from by rw [← hd.out, disOk_step hlt (by rw [hr]), hr])
        have HR := Lib.hid hr
        clear hr hk
        have hxR : tOp.R w 0 [.int .i64 co, .int .i64 ar] ⟨co, ar⟩ := tOp_mkR (x := ⟨co, ar⟩) ⟨by simp only; omega, by simp only; omega⟩ ⟨by simp only; omega, by simp only; omega⟩
        go_wp2_with (first
          | (go_at_call 264; (with_reducible refine (decodeOp_i s (a : Int) _ hs ha64).mono ?_); rw [HR.out]; rintro e w4 ⟨rfl, os4, d4, rfl⟩)
          | (refine wpList_append_hasf (L := l.length + 1) (y := (⟨co, ar⟩ : DOp)) rfl (.tmp 23) (.tmp 25) elOp flatOp (S := S) (hH.gro gF) (ec := [.int .i64 co, .int .i64 ar]) (W1 := w) (B := 0) hxR rfl rfl rfl (by intro j u hu; simpa [go_sem] using hu) rfl (by omega) (by omega) ?_; intro A7 c7 W7 S7 hon hH7 hS7))
        go_roundw
        case measure => (simp [intOf]; try omega)
        case rel =>
          refine ⟨a + n, l ++ [⟨co, ar⟩], A7, c7, S7, by rw [List.length_append]; rfl, by go_num, by omega, by rw [List.length_append, List.length_singleton]; omega, by rw [List.length_append]; exact hH7, fun b hb => ?_, HST, Lib.hid (hon.gro (hG.out.trans gF) hS)⟩
          rcases hS7 b hb with h | h
          · exact hS b h
          · have := hG.out.size
            simp at h
            omega
    · obtain rfl : a = s.size := by omega
      have HQ := Lib.hid (show disOk s 0 = true from by rw [← hd.out]; exact disOk_end (Nat.le_refl _))
      go_wp2_with (fail)
      go_ret2
      exact ⟨_, _, _, by rw [HQ.out]; rfl, hG.out⟩
set_option maxRecDepth 100000 in
set_option maxHeartbeats 4000000 in
theorem dis_s (s : ByteArray) (w : World) (hs : s.size ≤ 1099511627776) : Calls Tryz.prog 268 #[.string s] w (RetDis (disOk s 0) w) := by
  go_enter Tryz.func268, Tryz.ntmps268
  go_wp2_with (fail)
  have en := heap_alloc_new w (.cells #[] 217)
  go_loopw [4, 5] (fun x y wr => ∃ (a : Nat) (l : List DOp) (A : Option Addr) (c : Nat) (S : List Nat), x = .slice A l.length c ∧ y = .int .i64 a ∧ a ≤ s.size ∧ l.length ≤ a ∧ Has (tOp.sl 217) wr [.slice A l.length c] l S ∧ (∀ b ∈ S, w.heap.size ≤ b) ∧ Hid (disOk s a = disOk s 0) ∧ Hid (Gro w wr)) (fun _ y _ => s.size - (intOf y).toNat)
  case atStart => exact ⟨0, [], _, 0, [w.heap.size], rfl, rfl, Nat.zero_le _, Nat.le_refl _, Has.emp tOp en, by simp, Lib.hid rfl, Lib.hid gG⟩
  case round =>
    clear en
    obtain ⟨a, l, A, c, S, rfl, rfl, ha, hl, hH, hS, hd, hG⟩ := hrel
    by_cases hlt : a < s.size
    · have ha64 : I64 (a : Int) := ⟨by omega, by omega⟩
      obtain ⟨r, hr⟩ : ∃ r, decOp s (a : Int) = r := ⟨_, rfl⟩
      have hk := decOp_ok hr
      have har := decOp_arg hr
      cases hrk : r.ok with
      | false =>
        have HQ := Lib.hid (show disOk s 0 = false from by rw [← hd.out]; exact disOk_bad hlt (by rw [hr]; exact hrk))
        have hz := decOp_zero hr hrk
        subst hz
        have HR := Lib.hid hr
        clear hr hrk hk
        go_wp2_with (go_at_call 269; (with_reducible refine (decodeOp_s s (a : Int) _ hs ha64).mono ?_); rw [HR.out]; rintro e w4 ⟨rfl, os4, d4, rfl⟩)
        go_ret2
        exact ⟨_, _, _, by rw [HQ.out]; rfl, hG.out.trans gF⟩
      | true =>
        obtain ⟨k0, k1, k2, k3, k4, k5⟩ := hk hrk
        obtain ⟨co, ar, n, okk⟩ := r
        simp only at hrk k0 k1 k2 k3 k4 k5 har
        subst hrk
        have HST := Lib.hid (show disOk s (a + n) = disOk s 0 from by rw [← hd.out, disOk_step hlt (by rw [hr]), hr])
        have HR := Lib.hid hr
        clear hr hk
        have hxR : tOp.R w 0 [.int .i64 co, .int .i64 ar] ⟨co, ar⟩ := tOp_mkR (x := ⟨co, ar⟩) ⟨by simp only; omega, by simp only; omega⟩ ⟨by simp only; omega, by simp only; omega⟩
        go_wp2_with (first
          | (go_at_call 269; (with_reducible refine (decodeOp_s s (a : Int) _ hs ha64).mono ?_); rw [HR.out]; rintro e w4 ⟨rfl, os4, d4, rfl⟩)
          | (refine wpList_append_hasf (L := l.length + 1) (y := (⟨co, ar⟩ : DOp)) rfl (.tmp 24) (.tmp 26) elOp flatOp (S := S) (hH.gro gF) (ec := [.int .i64 co, .int .i64 ar]) (W1 := w) (B := 0) hxR rfl rfl rfl (by intro j u hu; simpa [go_sem] using hu) rfl (by omega) (by omega) ?_; intro A7 c7 W7 S7 hon hH7 hS7))
        go_roundw
        case measure => (simp [intOf]; try omega)
        case rel =>
          refine ⟨a + n, l ++ [⟨co, ar⟩], A7, c7, S7, by rw [List.length_append]; rfl, by go_num, by omega, by rw [List.length_append, List.length_singleton]; omega, by rw [List.length_append]; exact hH7, fun b hb => ?_, HST, Lib.hid (hon.gro (hG.out.trans gF) hS)⟩
          rcases hS7 b hb with h | h
          · exact hS b h
          · have := hG.out.size
            simp at h
            omega
    · obtain rfl : a = s.size := by omega
      have HQ := Lib.hid (show disOk s 0 = true from by rw [← hd.out]; exact disOk_end (Nat.le_refl _))
      go_wp2_with (fail)
      go_ret2
      exact ⟨_, _, _, by rw [HQ.out]; rfl, hG.out⟩
end Go.Proofs.YtgodpjnbhmahaaaGreat
namespace Go.Proofs.YtgodpjnbhmahaaaGreat
open Go.RowKit
def imgF (code : ByteArray) : List DSymbol → List ByteArray → Nat → Bool
  | [], _, a => decide (a = code.size)
  | x :: r, prev, a => decide (x.Start = (a : Int)) && decide (1 ≤ x.Size) && decide (x.Size ≤ (code.size : Int) - a) && nameOk x.Name && !prev.any (fun y => decide (y = x.Name)) && disOk (code.extract a (a + x.Size.toNat)) 0 && imgF code r (prev ++ [x.Name]) (a + x.Size.toNat)
def imageOk (i : DImage) : Bool := decide (i.Code.size ≤ 1000000) && imgF i.Code i.Symbols [] 0
def symHit (x : DSymbol) (off : Int) : Bool := btw x.Start 0 1000000 && btw x.Size 0 1000000 && decide (x.Start ≤ off) && decide (off < x.Start + x.Size)
def symGo : List DSymbol → Int → Nat → Int
  | [], _, _ => -1
  | x :: r, off, k => if symHit x off = true then (k : Int) else symGo r off (k + 1)
theorem imgF_cons {code : ByteArray} {x : DSymbol} {r : List DSymbol} {prev : List ByteArray} {a : Nat} (h : imgF code (x :: r) prev a = true) :
    x.Start = (a : Int) ∧ 1 ≤ x.Size ∧ x.Size ≤ (code.size : Int) - a ∧ imgF code r (prev ++ [x.Name]) (a + x.Size.toNat) = true := by
  simp only [imgF, Bool.and_eq_true, decide_eq_true_eq] at h
  exact ⟨h.1.1.1.1.1.1, h.1.1.1.1.1.2, h.1.1.1.1.2, h.2⟩
/-- the symbols of a right image lie one behind the other: the start of one is found -/
theorem sym_find {code : ByteArray} (hc : code.size ≤ 1000000) : ∀ (l : List DSymbol) (prev : List ByteArray) (a k0 : Nat), imgF code l prev a = true → ∀ x ∈ l, (∃ k y, symGo l x.Start k0 = ((k0 + k : Nat) : Int) ∧ l[k]? = some y ∧ y.Start = x.Start) ∧ (a : Int) ≤ x.Start ∧ x.Start + 1 ≤ code.size := by
  intro l
  induction l with
  | nil => intro prev a k0 _ x hx; cases hx
  | cons y r ih =>
    intro prev a k0 h x hx
    obtain ⟨h1, h2, h3, h4⟩ := imgF_cons h
    rcases List.mem_cons.1 hx with rfl | hx
    · refine ⟨⟨0, x, ?_, rfl, rfl⟩, by omega, by omega⟩
      have : symHit x x.Start = true := by
        unfold symHit
        rw [btw_mk (by omega) (by omega), btw_mk (by omega) (by omega)]
        simp; omega
      simp [symGo, this]
    · obtain ⟨⟨k, z, e1, e2, e3⟩, e4, e5⟩ := ih _ _ (k0 + 1) h4 x hx
      refine ⟨⟨k + 1, z, ?_, e2, e3⟩, by omega, e5⟩
      have : symHit y x.Start = false := by
        unfold symHit
        simp; omega
      simp only [symGo, this]
      rw [if_neg (by simp), e1]
      congr 1
      omega
theorem symGo_some : ∀ (l : List DSymbol) (off : Int) (k0 : Nat), symGo l off k0 = -1 ∨ ∃ k x, symGo l off k0 = ((k0 + k : Nat) : Int) ∧ l[k]? = some x ∧ x ∈ l := by
  intro l
  induction l with
  | nil => intro off k0; exact .inl rfl
  | cons x r ih =>
    intro off k0
    simp only [symGo]
    split
    · exact .inr ⟨0, x, by simp, rfl, by simp⟩
    · rcases ih off (k0 + 1) with h | ⟨k, y, h1, h2, h3⟩
      · exact .inl h
      · exact .inr ⟨k + 1, y, by rw [h1]; congr 1; omega, h2, by simp [h3]⟩
/-- where an address lies -/
def locGo : List DImage → List Int → Int → Nat → Int × Int
  | i :: is, b :: bs, a, k => if b ≤ a ∧ a < b + i.Code.size then ((k : Int), a - b) else locGo is bs a (k + 1)
  | _, _, _, _ => (-1, -1)
def loc (s : DSpace) (a : Int) : Int × Int := locGo s.Images s.Bases a 0
/-- the address of a symbol's start, said by search -/
def isEnt (s : DSpace) (e : Int) : Bool := (s.Images.zip s.Bases).any fun p => p.1.Symbols.any fun x => decide (p.2 + x.Start = e)
/-- .. said by place -/
def entS (s : DSpace) (e : Int) : Bool :=
  match s.Images[(loc s e).1.toNat]? with
  | none => false
  | some i => decide (0 ≤ (loc s e).1) && (match i.Symbols[(symGo i.Symbols (loc s e).2 0).toNat]? with
    | none => false
    | some x => decide (0 ≤ symGo i.Symbols (loc s e).2 0) && decide (x.Start = (loc s e).2))
def overlap (s : DSpace) : Bool :=
  match s.Images, s.Bases with
  | [i, j], [a, b] => decide (0 < i.Code.size) && decide (0 < j.Code.size) && decide (a < b + j.Code.size) && decide (b < a + i.Code.size)
  | _, _ => true
def spaceOk (s : DSpace) : Bool :=
  decide (s.Images.length = 2) && decide (s.Bases.length = 2) && btw s.Entries.length 1 6 && s.Images.all imageOk && s.Bases.all (fun b => btw b 1 1000000) && !overlap s && s.Entries.all (isEnt s)
theorem ent_eq {i j : DImage} {a b : Int} {es : List Int} (hi : imageOk i = true) (hj : imageOk j = true) (ha : 1 ≤ a) (hb : 1 ≤ b) (ho : ¬ (0 < i.Code.size ∧ 0 < j.Code.size ∧ a < b + j.Code.size ∧ b < a + i.Code.size)) (e : Int) :
    entS ⟨[i, j], [a, b], es⟩ e = isEnt ⟨[i, j], [a, b], es⟩ e := by
  simp only [imageOk, Bool.and_eq_true, decide_eq_true_eq] at hi hj
  obtain ⟨ci, fi⟩ := hi
  obtain ⟨cj, fj⟩ := hj
  have key : entS ⟨[i, j], [a, b], es⟩ e = true ↔ isEnt ⟨[i, j], [a, b], es⟩ e = true := by
    simp only [isEnt, List.zip_cons_cons, List.zip_nil_right, List.any_cons, List.any_nil, Bool.or_false, Bool.or_eq_true, List.any_eq_true, decide_eq_true_eq]
    constructor
    · intro h
      have hl : (loc ⟨[i, j], [a, b], es⟩ e = (0, e - a)) ∨ (loc ⟨[i, j], [a, b], es⟩ e = (1, e - b)) ∨ loc ⟨[i, j], [a, b], es⟩ e = (-1, -1) := by
        simp only [loc, locGo]
        split
        · simp
        · split
          · simp
          · simp
      have hz : ∀ (l : List DSymbol) (o : Int), (match l[(symGo l o 0).toNat]? with
          | none => false
          | some x => decide (0 ≤ symGo l o 0) && decide (x.Start = o)) = true → ∃ x ∈ l, x.Start = o := by
        intro l o h
        split at h
        · cases h
        · rename_i x hx
          simp only [Bool.and_eq_true, decide_eq_true_eq] at h
          exact ⟨x, List.mem_of_getElem? hx, h.2⟩
      unfold entS at h
      rcases hl with hl | hl | hl
      · rw [hl] at h
        simp at h
        obtain ⟨x, hx, hs⟩ := hz i.Symbols (e - a) (by simpa using h)
        exact .inl ⟨x, hx, by omega⟩
      · rw [hl] at h
        simp at h
        obtain ⟨x, hx, hs⟩ := hz j.Symbols (e - b) (by simpa using h)
        exact .inr ⟨x, hx, by omega⟩
      · rw [hl] at h
        simp at h
    · intro h
      rcases h with ⟨x, hx, he⟩ | ⟨x, hx, he⟩
      · obtain ⟨⟨k, y, e1, e2, e3⟩, e4, e5⟩ := sym_find ci i.Symbols [] 0 0 fi x hx
        have hl : loc ⟨[i, j], [a, b], es⟩ e = (0, x.Start) := by
          simp only [loc, locGo]
          rw [if_pos (by omega)]
          simp; omega
        unfold entS
        rw [hl]
        simp [e1, e2, e3]
      · obtain ⟨⟨k, y, e1, e2, e3⟩, e4, e5⟩ := sym_find cj j.Symbols [] 0 0 fj x hx
        have hl : loc ⟨[i, j], [a, b], es⟩ e = (1, x.Start) := by
          simp only [loc, locGo]
          rw [if_neg (by omega), if_pos (by omega)]
          simp; omega
        unfold entS
        rw [hl]
        simp [e1, e2, e3]
  cases h1 : entS ⟨[i, j], [a, b], es⟩ e <;> cases h2 : isEnt ⟨[i, j], [a, b], es⟩ e <;> simp_all
end Go.Proofs.YtgodpjnbhmahaaaGreat
namespace Go.Proofs.YtgodpjnbhmahaaaGreat
open Go.RowKit
theorem imgF_at {code : ByteArray} {l : List DSymbol} {j a : Nat} {x : DSymbol} {prev : List ByteArray} (h : l[j]? = some x) : imgF code (l.drop j) prev a = (decide (x.Start = (a : Int)) && decide (1 ≤ x.Size) && decide (x.Size ≤ (code.size : Int) - a) && nameOk x.Name && !prev.any (fun y => decide (y = x.Name)) && disOk (code.extract a (a + x.Size.toNat)) 0 && imgF code (l.drop (j + 1)) (prev ++ [x.Name]) (a + x.Size.toNat)) := by
  have hl := (List.getElem?_eq_some_iff.1 h)
  obtain ⟨hl, rfl⟩ := hl
  rw [List.drop_eq_getElem_cons hl]
  rfl
theorem names_take {l : List DSymbol} {j : Nat} {x : DSymbol} (h : l[j]? = some x) : (l.take (j + 1)).map DSymbol.Name = (l.take j).map DSymbol.Name ++ [x.Name] := by
  rw [take_snoc h, List.map_append]
  rfl
set_option maxRecDepth 100000 in
set_option maxHeartbeats 4000000 in
theorem imageOk_i {i : DImage} {w : World} {A : Option Addr} {c : Nat} (h1 : (tSymbol.sl 193).R w w.heap.size [.slice A i.Symbols.length c] i.Symbols) (hs : i.Code.size ≤ 1099511627776) (hn : i.Symbols.length ≤ 1099511627776) :
    Calls Tryz.prog 176 #[.agg #[.string i.Code, .slice A i.Symbols.length c]] w fun e w' => e = .returned (.bool (imageOk i)) ∧ Gro w w' := by
  obtain ⟨_, _, hx', hxl, hcm⟩ := sl_at h1
  injection hx' with e1 e2 e3
  subst e1 e3
  clear e2
  obtain ⟨code, syms⟩ := i
  simp only at h1 hs hn hxl hcm ⊢
  by_cases hbig : code.size ≤ 1000000
  case neg =>
    have HQ := Lib.hid (show imageOk ⟨code, syms⟩ = false from by simp [imageOk, hbig])
    have hg : decide ((1000000 : Int) < (code.size : Int)) = true := decide_eq_true (by omega)
    go_enter Tryz.func176, Tryz.ntmps176
    go_wp2_with (fail)
    go_ret
    exact ⟨ret_bool HQ.out.symm, gG⟩
  have HQ := Lib.hid (show imageOk ⟨code, syms⟩ = imgF code syms [] 0 from by simp [imageOk, hbig])
  have hg : decide ((1000000 : Int) < (code.size : Int)) = false := decide_eq_false (by omega)
  go_enter Tryz.func176, Tryz.ntmps176
  go_wp2_with (fail)
  have hG0 : Gro w (w.alloc (.cells #[.string code, .slice A syms.length c] 113)) := gG
  have eb := heap_alloc_new w (.cells #[.string code, .slice A syms.length c] 113)
  have h2 := Ty.up _ h1 hG0
  obtain ⟨g0, hg0⟩ : ∃ g0, w.heap.size = g0 := ⟨_, rfl⟩
  rw [hg0] at eb ⊢
  generalize w.alloc (.cells #[.string code, .slice A syms.length c] 113) = Y at hG0 eb h2 ⊢
  clear h1 hg0
  obtain ⟨y0, y1, _, _, yl⟩ := box2 eb
  go_loopw [3, 17] (fun x y wr => ∃ (j a : Nat), x = .int .i64 a ∧ y = .int .i64 j ∧ j ≤ syms.length ∧ a ≤ code.size ∧ Hid (imgF code (syms.drop j) ((syms.take j).map DSymbol.Name) a = imgF code syms [] 0) ∧ Hid (Gro Y wr)) (fun _ y _ => syms.length - (intOf y).toNat)
  case atStart => exact ⟨0, 0, rfl, rfl, Nat.zero_le _, Nat.zero_le _, Lib.hid rfl, Lib.hid (Gro.refl _)⟩
  case round =>
    obtain ⟨j, a, rfl, rfl, hj, ha, hE, hG⟩ := hrel
    obtain ⟨os, d, rfl⟩ := hG.out
    clear hG
    by_cases hlt : j < syms.length
    · obtain ⟨g, off, x, rfl, hgb, hxk, hx0, hx1, hx2, bx0, bx1, bx2⟩ := atSymbol h2 hlt
      have hF := imgF_at (code := code) (a := a) (prev := (syms.take j).map DSymbol.Name) hxk
      rw [hE.out] at hF
      have HNT := Lib.hid (names_take hxk)
      have hc0 := gro_keeps hx0 os d
      have hc1 := gro_keeps hx1 os d
      have hc2 := gro_keeps hx2 os d
      have z0 := gro_keeps y0 os d
      have z1 := gro_keeps y1 os d
      have hji : (j : Int) < (syms.length : Int) := by omega
      clear hE
      obtain ⟨nm, st, sz⟩ := x
      simp only at hF hx0 hx1 hx2 bx0 bx1 bx2 hc0 hc1 hc2 HNT
      by_cases q1 : st = (a : Int)
      case neg =>
        have HF := Lib.hid (show imgF code syms [] 0 = false from by rw [hF]; simp [q1])
        have p1 : (st != (a : Int)) = true := by simp [q1]
        clear hF
        go_wp2_with (fail)
        go_ret
        exact ⟨ret_bool (by rw [HQ.out, HF.out]), hG0.trans gF⟩
      subst q1
      have p1 : (((a : Nat) : Int) != (a : Int)) = false := by simp
      by_cases q2 : 1 ≤ sz
      case neg =>
        have HF := Lib.hid (show imgF code syms [] 0 = false from by rw [hF]; simp [q2])
        have p2 : decide (sz < 1) = true := decide_eq_true (by omega)
        clear hF
        go_wp2_with (fail)
        go_ret
        exact ⟨ret_bool (by rw [HQ.out, HF.out]), hG0.trans gF⟩
      have p2 : decide (sz < 1) = false := decide_eq_false (by omega)
      by_cases q3 : sz ≤ (code.size : Int) - a
      case neg =>
        have HF := Lib.hid (show imgF code syms [] 0 = false from by rw [hF]; simp [q3])
        have p3 : decide ((code.size : Int) - a < sz) = true := decide_eq_true (by omega)
        clear hF
        go_wp2_with (fail)
        go_ret
        exact ⟨ret_bool (by rw [HQ.out, HF.out]), hG0.trans gF⟩
      have p3 : decide ((code.size : Int) - a < sz) = false := decide_eq_false (by omega)
      obtain ⟨z, rfl⟩ := Int.eq_ofNat_of_zero_le (show 0 ≤ sz by omega)
      cases q4 : nameOk nm
      case false =>
        have HF := Lib.hid (show imgF code syms [] 0 = false from by rw [hF]; simp [q4])
        have HN := Lib.hid q4
        clear hF q4
        go_wp2_with (go_at_call 277; (with_reducible refine (nameOk_i nm _ bx0).mono ?_); rw [HN.out]; rintro e w1 ⟨rfl, rfl⟩)
        go_ret
        exact ⟨ret_bool (by rw [HQ.out, HF.out]), hG0.trans gF⟩
      have HN := Lib.hid q4
      have hF2 : imgF code syms [] 0 = (!((syms.take j).map DSymbol.Name).any (fun y => decide (y = nm)) && disOk (code.extract a (a + z)) 0 && imgF code (syms.drop (j + 1)) ((syms.take (j + 1)).map DSymbol.Name) (a + z)) := by
        rw [hF, HNT.out, q4]
        simp [q2, q3]
      have HF2 := Lib.hid hF2
      clear hF hF2 q4 HNT
      go_wp2_with (go_at_call 277; (with_reducible refine (nameOk_i nm _ bx0).mono ?_); rw [HN.out]; rintro e w1 ⟨rfl, rfl⟩)
      have hGV : Gro Y ((gro Y os d).alloc (.cells #[.string nm, .int .i64 (a : Int), .int .i64 (z : Int)] 193)) := gG
      have es := heap_alloc_new (gro Y os d) (.cells #[.string nm, .int .i64 (a : Int), .int .i64 (z : Int)] 193)
      obtain ⟨gs, hgs⟩ : ∃ gs, (gro Y os d).heap.size = gs := ⟨_, rfl⟩
      rw [hgs] at es
      rw [gro_size] at hgs
      rw [hgs]
      generalize (gro Y os d).alloc (.cells #[.string nm, .int .i64 (a : Int), .int .i64 (z : Int)] 193) = V at hGV es ⊢
      have hc := fun k => cell_of_row V gs k _ _ (0, 0) es
      have v0 : V.cell? ⟨gs, 0, none⟩ = some (.string nm) := hc 0
      have v1 : V.cell? ⟨gs, 1, none⟩ = some (.int .i64 (a : Int)) := hc 1
      have v2 : V.cell? ⟨gs, 2, none⟩ = some (.int .i64 (z : Int)) := hc 2
      have u0 := cell_up hGV y0
      have u1 := cell_up hGV y1
      have h3 := Ty.up _ h2 hGV
      have vl : gs < V.heap.size := (Array.getElem?_eq_some_iff.1 es).1
      have ul : g0 < V.heap.size := Nat.lt_of_lt_of_le yl hGV.size
      clear hc es hc0 hc1 hc2 z0 z1 hx0 hx1 hx2 p1 p2 p3 hgs
      have hjn : (j : Int) ≤ (syms.length : Int) := by omega
      have hjc : (j : Int) ≤ (c : Int) := by omega
      go_loopw [52] (fun y we => ∃ m : Nat, y = .int .i64 m ∧ m ≤ j ∧ Hid (∀ (i : Nat) (y : DSymbol), i < m → syms[i]? = some y → y.Name ≠ nm) ∧ Hid (Gro V we)) (fun y _ => j - (intOf y).toNat)
      case atStart => exact ⟨0, rfl, Nat.zero_le _, Lib.hid (fun i y h => absurd h (Nat.not_lt_zero _)), Lib.hid (Gro.refl _)⟩
      case round =>
        obtain ⟨m, rfl, hm, hne, hG⟩ := hrel
        obtain ⟨os2, d2, rfl⟩ := hG.out
        clear hG
        by_cases hml : m < j
        · obtain ⟨g2, off2, y, hAe, hgb2, hyk, hy0, hy1, hy2, by0, by1, by2⟩ := atSymbol h3 (k := m) (by omega)
          injection hAe with hAe
          injection hAe with e1 e2
          subst e1 e2
          have hmi : (m : Int) < (j : Int) := by omega
          have k0 := gro_keeps hy0 os2 d2
          have k1 := gro_keeps hy1 os2 d2
          have k2 := gro_keeps hy2 os2 d2
          have r0 := gro_keeps v0 os2 d2
          obtain ⟨yn, ys, yz⟩ := y
          simp only at k0 k1 k2 hyk
          by_cases he : yn = nm
          · subst he
            have HF := Lib.hid (show imgF code syms [] 0 = false from by
              rw [HF2.out]
              have : yn ∈ (syms.take j).map DSymbol.Name := List.mem_map.2 ⟨_, List.mem_of_getElem? (i := m) (by rw [List.getElem?_take, if_pos hml]; exact hyk), rfl⟩
              have hct : ((syms.take j).map DSymbol.Name).any (fun y => decide (y = yn)) = true := List.any_eq_true.2 ⟨yn, this, by simp⟩
              rw [hct]
              rfl)
            clear hyk
            go_wp2_with (fail)
            go_ret
            exact ⟨ret_bool (by rw [HQ.out, HF.out]), (hG0.trans hGV).trans gF⟩
          · have hnb : (yn.toList == nm.toList) = false := by rw [str_eqb, decide_eq_false he]
            have HE := Lib.hid he
            have HYK := Lib.hid hyk
            clear he hyk
            go_wp2_with (fail)
            go_roundw
            case measure => (simp [intOf]; try omega)
            case rel => exact ⟨m + 1, by go_num, by omega, Lib.hid (fun i y hi hy => by
              by_cases him : i = m
              · subst him
                rw [HYK.out] at hy
                cases hy
                exact HE.out
              · exact hne.out i y (by omega) hy), Lib.hid gG⟩
        · obtain rfl : m = j := by omega
          have u0' := gro_keeps u0 os2 d2
          have u1' := gro_keeps u1 os2 d2
          have v1' := gro_keeps v1 os2 d2
          have v2' := gro_keeps v2 os2 d2
          have hnc : ((syms.take m).map DSymbol.Name).any (fun y => decide (y = nm)) = false := by
            cases hcc : ((syms.take m).map DSymbol.Name).any (fun y => decide (y = nm))
            · rfl
            · obtain ⟨yn, hyn, hye2⟩ := List.any_eq_true.1 hcc
              obtain ⟨y, hy, hye⟩ := List.mem_map.1 hyn
              have hye : y.Name = nm := hye.trans (by simpa using hye2)
              obtain ⟨i, hi⟩ := List.mem_iff_getElem?.1 hy
              have him : i < m := by
                have := (List.getElem?_eq_some_iff.1 hi).1
                rw [List.length_take] at this
                omega
              rw [List.getElem?_take, if_pos him] at hi
              exact absurd hye (hne.out i y him hi)
          have hF3 := HF2.out
          rw [hnc] at hF3
          simp only [Bool.not_false, Bool.true_and] at hF3
          clear hne HF2
          have hsub : (code.extract a (a + z)).size ≤ 1099511627776 := by rw [ByteArray.size_extract]; omega
          obtain ⟨b, hb⟩ : ∃ b, disOk (code.extract a (a + z)) 0 = b := ⟨_, rfl⟩
          rw [hb] at hF3
          have HB := Lib.hid hb
          have w1 : IntKind.i64.wrap ((a : Int) + (z : Int)) = (a : Int) + (z : Int) := IntWalk.i64_in _ (by omega)
          have w2 : (a : Int) + (z : Int) ≤ (code.size : Int) := by omega
          have w3 : (a : Int) ≤ (a : Int) + (z : Int) := by omega
          have w4 : (0 : Int) ≤ (a : Int) + (z : Int) := by omega
          clear hb
          cases b with
          | false =>
            have HF := Lib.hid (show imgF code syms [] 0 = false from by rw [hF3]; rfl)
            clear hF3
            go_wp2_with (go_at_call 278; (with_reducible refine (dis_i (code.extract a (a + z)) _ hsub).mono ?_); rw [HB.out]; rintro e w4 ⟨A4, n4, c4, rfl, os4, d4, rfl⟩)
            go_ret
            exact ⟨ret_bool (by rw [HQ.out, HF.out]), (hG0.trans hGV).trans gF⟩
          | true =>
            have HF := Lib.hid (show imgF code (syms.drop (m + 1)) ((syms.take (m + 1)).map DSymbol.Name) (a + z) = imgF code syms [] 0 from by rw [hF3]; simp)
            clear hF3
            go_wp2_with (go_at_call 278; (with_reducible refine (dis_i (code.extract a (a + z)) _ hsub).mono ?_); rw [HB.out]; rintro e w4 ⟨A4, n4, c4, rfl, os4, d4, rfl⟩)
            go_roundw
            case measure => (simp [intOf]; try omega)
            case rel => exact ⟨m + 1, a + z, by go_num, by go_num, by omega, by omega, HF, Lib.hid (hGV.trans gF)⟩
    · obtain rfl : j = syms.length := by omega
      have hEE := hE.out
      rw [List.drop_length] at hEE
      have HF := Lib.hid (show ((a : Int) == (code.size : Int)) = imgF code syms [] 0 from by
        rw [← hEE]
        simp only [imgF]
        by_cases h : a = code.size
        · simp [h]
        · simp [h]; omega)
      have z0 := gro_keeps y0 os d
      clear hE hEE
      go_wp2_with (fail)
      go_ret
      exact ⟨ret_bool (by rw [HQ.out, ← HF.out]), hG0.trans gF⟩
end Go.Proofs.YtgodpjnbhmahaaaGreat
namespace Go.Proofs.YtgodpjnbhmahaaaGreat
open Go.RowKit
set_option maxRecDepth 100000 in
set_option maxHeartbeats 4000000 in
theorem imageOk_s {i : DImage} {w : World} {A : Option Addr} {c : Nat} (h1 : (tSymbol.sl 193).R w w.heap.size [.slice A i.Symbols.length c] i.Symbols) (hs : i.Code.size ≤ 1099511627776) (hn : i.Symbols.length ≤ 1099511627776) :
    Calls Tryz.prog 170 #[.agg #[.string i.Code, .slice A i.Symbols.length c]] w fun e w' => e = .returned (.bool (imageOk i)) ∧ Gro w w' := by
  obtain ⟨_, _, hx', hxl, hcm⟩ := sl_at h1
  injection hx' with e1 e2 e3
  subst e1 e3
  clear e2
  obtain ⟨code, syms⟩ := i
  simp only at h1 hs hn hxl hcm ⊢
  have HQ := Lib.hid (show imageOk ⟨code, syms⟩ = (imgF code syms [] 0 && decide (code.size ≤ 1000000)) from by simp [imageOk, Bool.and_comm])
  go_enter Tryz.func170, Tryz.ntmps170
  go_wp2_with (fail)
  have hG0 : Gro w (w.alloc (.cells #[.string code, .slice A syms.length c] 113)) := gG
  have eb := heap_alloc_new w (.cells #[.string code, .slice A syms.length c] 113)
  have h2 := Ty.up _ h1 hG0
  obtain ⟨g0, hg0⟩ : ∃ g0, w.heap.size = g0 := ⟨_, rfl⟩
  rw [hg0] at eb ⊢
  generalize w.alloc (.cells #[.string code, .slice A syms.length c] 113) = Y at hG0 eb h2 ⊢
  clear h1 hg0
  obtain ⟨y0, y1, _, _, yl⟩ := box2 eb
  go_loopw [3, 4] (fun x y wr => ∃ (j a : Nat), x = .int .i64 a ∧ y = .int .i64 j ∧ j ≤ syms.length ∧ a ≤ code.size ∧ Hid (imgF code (syms.drop j) ((syms.take j).map DSymbol.Name) a = imgF code syms [] 0) ∧ Hid (Gro Y wr)) (fun _ y _ => syms.length - (intOf y).toNat)
  case atStart => exact ⟨0, 0, rfl, rfl, Nat.zero_le _, Nat.zero_le _, Lib.hid rfl, Lib.hid (Gro.refl _)⟩
  case round =>
    obtain ⟨j, a, rfl, rfl, hj, ha, hE, hG⟩ := hrel
    obtain ⟨os, d, rfl⟩ := hG.out
    clear hG
    by_cases hlt : j < syms.length
    · obtain ⟨g, off, x, rfl, hgb, hxk, hx0, hx1, hx2, bx0, bx1, bx2⟩ := atSymbol h2 hlt
      have hF := imgF_at (code := code) (a := a) (prev := (syms.take j).map DSymbol.Name) hxk
      rw [hE.out] at hF
      have HNT := Lib.hid (names_take hxk)
      have hc0 := gro_keeps hx0 os d
      have hc1 := gro_keeps hx1 os d
      have hc2 := gro_keeps hx2 os d
      have z0 := gro_keeps y0 os d
      have z1 := gro_keeps y1 os d
      have hji : (j : Int) < (syms.length : Int) := by omega
      clear hE
      obtain ⟨nm, st, sz⟩ := x
      simp only at hF hx0 hx1 hx2 bx0 bx1 bx2 hc0 hc1 hc2 HNT
      by_cases q1 : st = (a : Int)
      case neg =>
        have HF := Lib.hid (show imgF code syms [] 0 = false from by rw [hF]; simp [q1])
        have p1 : (st != (a : Int)) = true := by simp [q1]
        clear hF
        go_wp2_with (fail)
        go_ret
        exact ⟨ret_bool (by rw [HQ.out, HF.out]; rfl), hG0.trans gF⟩
      subst q1
      have p1 : (((a : Nat) : Int) != (a : Int)) = false := by simp
      by_cases q2 : 1 ≤ sz
      case neg =>
        have HF := Lib.hid (show imgF code syms [] 0 = false from by rw [hF]; simp [q2])
        have p2 : decide (sz < 1) = true := decide_eq_true (by omega)
        clear hF
        go_wp2_with (fail)
        go_ret
        exact ⟨ret_bool (by rw [HQ.out, HF.out]; rfl), hG0.trans gF⟩
      have p2 : decide (sz < 1) = false := decide_eq_false (by omega)
      by_cases q3 : sz ≤ (code.size : Int) - a
      case neg =>
        have HF := Lib.hid (show imgF code syms [] 0 = false from by rw [hF]; simp [q3])
        have p3 : decide ((code.size : Int) - a < sz) = true := decide_eq_true (by omega)
        clear hF
        go_wp2_with (fail)
        go_ret
        exact ⟨ret_bool (by rw [HQ.out, HF.out]; rfl), hG0.trans gF⟩
      have p3 : decide ((code.size : Int) - a < sz) = false := decide_eq_false (by omega)
      obtain ⟨z, rfl⟩ := Int.eq_ofNat_of_zero_le (show 0 ≤ sz by omega)
      cases q4 : nameOk nm
      case false =>
        have HF := Lib.hid (show imgF code syms [] 0 = false from by rw [hF]; simp [q4])
        have HN := Lib.hid q4
        clear hF q4
        go_wp2_with (go_at_call 267; (with_reducible refine (nameOk_s nm _ bx0).mono ?_); rw [HN.out]; rintro e w1 ⟨rfl, rfl⟩)
        go_ret
        exact ⟨ret_bool (by rw [HQ.out, HF.out]; rfl), hG0.trans gF⟩
      have HN := Lib.hid q4
      have hF2 : imgF code syms [] 0 = (!((syms.take j).map DSymbol.Name).any (fun y => decide (y = nm)) && disOk (code.extract a (a + z)) 0 && imgF code (syms.drop (j + 1)) ((syms.take (j + 1)).map DSymbol.Name) (a + z)) := by
        rw [hF, HNT.out, q4]
        simp [q2, q3]
      have HF2 := Lib.hid hF2
      clear hF hF2 q4 HNT
      go_wp2_with (go_at_call 267; (with_reducible refine (nameOk_s nm _ bx0).mono ?_); rw [HN.out]; rintro e w1 ⟨rfl, rfl⟩)
      have hGV : Gro Y ((gro Y os d).alloc (.cells #[.string nm, .int .i64 (a : Int), .int .i64 (z : Int)] 193)) := gG
      have es := heap_alloc_new (gro Y os d) (.cells #[.string nm, .int .i64 (a : Int), .int .i64 (z : Int)] 193)
      obtain ⟨gs, hgs⟩ : ∃ gs, (gro Y os d).heap.size = gs := ⟨_, rfl⟩
      rw [hgs] at es
      rw [gro_size] at hgs
      rw [hgs]
      generalize (gro Y os d).alloc (.cells #[.string nm, .int .i64 (a : Int), .int .i64 (z : Int)] 193) = V at hGV es ⊢
      have hc := fun k => cell_of_row V gs k _ _ (0, 0) es
      have v0 : V.cell? ⟨gs, 0, none⟩ = some (.string nm) := hc 0
      have v1 : V.cell? ⟨gs, 1, none⟩ = some (.int .i64 (a : Int)) := hc 1
      have v2 : V.cell? ⟨gs, 2, none⟩ = some (.int .i64 (z : Int)) := hc 2
      have u0 := cell_up hGV y0
      have u1 := cell_up hGV y1
      have h3 := Ty.up _ h2 hGV
      have vl : gs < V.heap.size := (Array.getElem?_eq_some_iff.1 es).1
      have ul : g0 < V.heap.size := Nat.lt_of_lt_of_le yl hGV.size
      clear hc es hc0 hc1 hc2 z0 z1 hx0 hx1 hx2 p1 p2 p3 hgs
      have hjn : (j : Int) ≤ (syms.length : Int) := by omega
      have hjc : (j : Int) ≤ (c : Int) := by omega
      go_loopw [6] (fun y we => ∃ m : Nat, y = .int .i64 m ∧ m ≤ j ∧ Hid (∀ (i : Nat) (y : DSymbol), i < m → syms[i]? = some y → y.Name ≠ nm) ∧ Hid (Gro V we)) (fun y _ => j - (intOf y).toNat)
      case atStart => exact ⟨0, rfl, Nat.zero_le _, Lib.hid (fun i y h => absurd h (Nat.not_lt_zero _)), Lib.hid (Gro.refl _)⟩
      case round =>
        obtain ⟨m, rfl, hm, hne, hG⟩ := hrel
        obtain ⟨os2, d2, rfl⟩ := hG.out
        clear hG
        by_cases hml : m < j
        · obtain ⟨g2, off2, y, hAe, hgb2, hyk, hy0, hy1, hy2, by0, by1, by2⟩ := atSymbol h3 (k := m) (by omega)
          injection hAe with hAe
          injection hAe with e1 e2
          subst e1 e2
          have hmi : (m : Int) < (j : Int) := by omega
          have hmi2 : (m : Int) < (syms.length : Int) := by omega
          have u1' := gro_keeps u1 os2 d2
          have k0 := gro_keeps hy0 os2 d2
          have k1 := gro_keeps hy1 os2 d2
          have k2 := gro_keeps hy2 os2 d2
          have r0 := gro_keeps v0 os2 d2
          obtain ⟨yn, ys, yz⟩ := y
          simp only at k0 k1 k2 hyk
          by_cases he : yn = nm
          · subst he
            have HF := Lib.hid (show imgF code syms [] 0 = false from by
              rw [HF2.out]
              have : yn ∈ (syms.take j).map DSymbol.Name := List.mem_map.2 ⟨_, List.mem_of_getElem? (i := m) (by rw [List.getElem?_take, if_pos hml]; exact hyk), rfl⟩
              have hct : ((syms.take j).map DSymbol.Name).any (fun y => decide (y = yn)) = true := List.any_eq_true.2 ⟨yn, this, by simp⟩
              rw [hct]
              rfl)
            clear hyk
            go_wp2_with (fail)
            go_quiet (fail)
            go_wp2_with (fail)
            go_ret
            exact ⟨ret_bool (by rw [HQ.out, HF.out]; rfl), (hG0.trans hGV).trans gF⟩
          · have hnb : (yn.toList == nm.toList) = false := by rw [str_eqb, decide_eq_false he]
            have HE := Lib.hid he
            have HYK := Lib.hid hyk
            clear he hyk
            go_wp2_with (fail)
            go_quiet (fail)
            go_wp2_with (fail)
            go_roundw
            case measure => (simp [intOf]; try omega)
            case rel => exact ⟨m + 1, by go_num, by omega, Lib.hid (fun i y hi hy => by
              by_cases him : i = m
              · subst him
                rw [HYK.out] at hy
                cases hy
                exact HE.out
              · exact hne.out i y (by omega) hy), Lib.hid gG⟩
        · obtain rfl : m = j := by omega
          have u0' := gro_keeps u0 os2 d2
          have u1' := gro_keeps u1 os2 d2
          have v1' := gro_keeps v1 os2 d2
          have v2' := gro_keeps v2 os2 d2
          have hnc : ((syms.take m).map DSymbol.Name).any (fun y => decide (y = nm)) = false := by
            cases hcc : ((syms.take m).map DSymbol.Name).any (fun y => decide (y = nm))
            · rfl
            · obtain ⟨yn, hyn, hye2⟩ := List.any_eq_true.1 hcc
              obtain ⟨y, hy, hye⟩ := List.mem_map.1 hyn
              have hye : y.Name = nm := hye.trans (by simpa using hye2)
              obtain ⟨i, hi⟩ := List.mem_iff_getElem?.1 hy
              have him : i < m := by
                have := (List.getElem?_eq_some_iff.1 hi).1
                rw [List.length_take] at this
                omega
              rw [List.getElem?_take, if_pos him] at hi
              exact absurd hye (hne.out i y him hi)
          have hF3 := HF2.out
          rw [hnc] at hF3
          simp only [Bool.not_false, Bool.true_and] at hF3
          clear hne HF2
          have hsub : (code.extract a (a + z)).size ≤ 1099511627776 := by rw [ByteArray.size_extract]; omega
          obtain ⟨b, hb⟩ : ∃ b, disOk (code.extract a (a + z)) 0 = b := ⟨_, rfl⟩
          rw [hb] at hF3
          have HB := Lib.hid hb
          have w1 : IntKind.i64.wrap ((a : Int) + (z : Int)) = (a : Int) + (z : Int) := IntWalk.i64_in _ (by omega)
          have w2 : (a : Int) + (z : Int) ≤ (code.size : Int) := by omega
          have w3 : (a : Int) ≤ (a : Int) + (z : Int) := by omega
          have w4 : (0 : Int) ≤ (a : Int) + (z : Int) := by omega
          clear hb
          cases b with
          | false =>
            have HF := Lib.hid (show imgF code syms [] 0 = false from by rw [hF3]; rfl)
            clear hF3
            go_wp2_with (go_at_call 268; (with_reducible refine (dis_s (code.extract a (a + z)) _ hsub).mono ?_); rw [HB.out]; rintro e w4 ⟨A4, n4, c4, rfl, os4, d4, rfl⟩)
            go_ret
            exact ⟨ret_bool (by rw [HQ.out, HF.out]; rfl), (hG0.trans hGV).trans gF⟩
          | true =>
            have HF := Lib.hid (show imgF code (syms.drop (m + 1)) ((syms.take (m + 1)).map DSymbol.Name) (a + z) = imgF code syms [] 0 from by rw [hF3]; simp)
            clear hF3
            go_wp2_with (go_at_call 268; (with_reducible refine (dis_s (code.extract a (a + z)) _ hsub).mono ?_); rw [HB.out]; rintro e w4 ⟨A4, n4, c4, rfl, os4, d4, rfl⟩)
            go_roundw
            case measure => (simp [intOf]; try omega)
            case rel => exact ⟨m + 1, a + z, by go_num, by go_num, by omega, by omega, HF, Lib.hid (hGV.trans gF)⟩
    · obtain rfl : j = syms.length := by omega
      have hEE := hE.out
      rw [List.drop_length] at hEE
      have z0 := gro_keeps y0 os d
      have z1 := gro_keeps y1 os d
      by_cases h : a = code.size
      · subst h
        have HF := Lib.hid (show imageOk ⟨code, syms⟩ = decide ((code.size : Int) ≤ 1000000) from by
          rw [HQ.out, ← hEE]
          simp only [imgF]
          simp; omega)
        clear hE hEE
        go_wp2_with (fail)
        go_ret
        exact ⟨ret_bool (by rw [HF.out]; try simp), hG0.trans gF⟩
      · have HF := Lib.hid (show imageOk ⟨code, syms⟩ = false from by
          rw [HQ.out, ← hEE]
          simp [imgF, h])
        have p9 : ((a : Int) == (code.size : Int)) = false := by simp; omega
        clear hE hEE
        go_wp2_with (fail)
        go_ret
        exact ⟨ret_bool (by rw [HF.out]; try simp), hG0.trans gF⟩
end Go.Proofs.YtgodpjnbhmahaaaGreat
namespace Go.Proofs.YtgodpjnbhmahaaaGreat
open Go.RowKit
theorem box3 {W : World} {g : Nat} {a b c : Value} {e : TypeId} (h : W.heap[g]? = some (.cells #[a, b, c] e (0, 0))) :
    W.cell? ⟨g, 0, none⟩ = some a ∧ W.cell? ⟨g, 1, none⟩ = some b ∧ W.cell? ⟨g, 2, none⟩ = some c ∧ (∀ j, W.frozen? ⟨g, j, none⟩ = false) ∧ g < W.heap.size := by
  refine ⟨?_, ?_, ?_, fun j => by simp [World.frozen?, h], (Array.getElem?_eq_some_iff.1 h).1⟩
  all_goals
    rw [cell_of_row W g _ _ _ (0, 0) h]
    rfl
theorem zip_at {α β : Type} {xs : List α} {ys : List β} {k : Nat} {x : α} {y : β} (hx : xs[k]? = some x) (hy : ys[k]? = some y) (f : α × β → Bool) : ((xs.zip ys).drop k).any f = (f (x, y) || ((xs.zip ys).drop (k + 1)).any f) := by
  have h : (xs.zip ys)[k]? = some (x, y) := by
    rw [List.getElem?_zip_eq_some]
    exact ⟨hx, hy⟩
  obtain ⟨hl, he⟩ := List.getElem?_eq_some_iff.1 h
  rw [List.drop_eq_getElem_cons hl, he, List.any_cons]
theorem any_at {α : Type} {xs : List α} {k : Nat} {x : α} (hx : xs[k]? = some x) (f : α → Bool) : (xs.drop k).any f = (f x || (xs.drop (k + 1)).any f) := by
  obtain ⟨hl, he⟩ := List.getElem?_eq_some_iff.1 hx
  rw [List.drop_eq_getElem_cons hl, he, List.any_cons]
set_option maxRecDepth 100000 in
set_option maxHeartbeats 4000000 in
theorem isEntry_i {imgs : List DImage} {bases es : List Int} {e : Int} {w : World} {A0 A1 A2 : Option Addr} {c0 c1 c2 : Nat} (h0 : (tImage.sl 113).R w w.heap.size [.slice A0 imgs.length c0] imgs) (h1 : (intT.sl 3).R w w.heap.size [.slice A1 bases.length c1] bases)
    (hl : imgs.length = bases.length) (hst : ∀ x ∈ imgs, ∀ y ∈ x.Symbols, btw y.Start 0 1000000 = true) (hbs : ∀ b ∈ bases, btw b 1 1000000 = true) (he : I64 e) :
    Calls Tryz.prog 177 #[.agg #[.slice A0 imgs.length c0, .slice A1 bases.length c1, .slice A2 es.length c2], .int .i64 e] w fun r w' => r = .returned (.bool (isEnt ⟨imgs, bases, es⟩ e)) ∧ Gro w w' := by
  obtain ⟨_, _, hx', hxl, hcm⟩ := sl_at h0
  injection hx' with e1 e2 e3
  subst e1 e3
  clear e2
  obtain ⟨_, _, hx', hyl, hdm⟩ := sl_at h1
  injection hx' with e1 e2 e3
  subst e1 e3
  clear e2
  obtain ⟨he1, he2⟩ := he
  have HL := Lib.hid (Nat.le_of_eq hl)
  have hl2 := Nat.le_of_eq hl
  clear hl
  go_enter Tryz.func177, Tryz.ntmps177
  go_wp2_with (fail)
  have hG0 : Gro w (w.alloc (.cells #[.slice A0 imgs.length c0, .slice A1 bases.length c1, .slice A2 es.length c2] 28)) := gG
  have eb := heap_alloc_new w (.cells #[.slice A0 imgs.length c0, .slice A1 bases.length c1, .slice A2 es.length c2] 28)
  have k0 := Ty.up _ h0 hG0
  have k1 := Ty.up _ h1 hG0
  obtain ⟨g0, hg0⟩ : ∃ g0, w.heap.size = g0 := ⟨_, rfl⟩
  rw [hg0] at eb ⊢
  generalize w.alloc (.cells #[.slice A0 imgs.length c0, .slice A1 bases.length c1, .slice A2 es.length c2] 28) = Y at hG0 eb k0 k1 ⊢
  clear h0 h1 hg0
  obtain ⟨y0, y1, _, _, yl⟩ := box3 eb
  go_loopw [12] (fun x wr => ∃ k : Nat, x = .int .i64 k ∧ k ≤ imgs.length ∧ Hid (((imgs.zip bases).drop k).any (fun p => p.1.Symbols.any fun x => decide (p.2 + x.Start = e)) = isEnt ⟨imgs, bases, es⟩ e) ∧ Hid (Gro Y wr)) (fun x _ => imgs.length - (intOf x).toNat)
  case atStart => exact ⟨0, rfl, Nat.zero_le _, Lib.hid rfl, Lib.hid (Gro.refl _)⟩
  case round =>
    obtain ⟨k, rfl, hk, hE, hG⟩ := hrel
    obtain ⟨os, d, rfl⟩ := hG.out
    clear hG
    by_cases hlt : k < imgs.length
    · obtain ⟨g, off, x, A, c, rfl, hgb, hxk, hx0, hx1, bx0, bx1⟩ := atImage k0 hlt
      obtain ⟨gb, offb, b, rfl, hbk, hcb, bb1, bb2⟩ := ints_at k1 (k := k) (by omega)
      have hbb := btw_iff.1 (hbs b (List.mem_of_getElem? hbk))
      have hsy := hst x (List.mem_of_getElem? hxk)
      have hz := zip_at hxk hbk (fun p => p.1.Symbols.any fun x => decide (p.2 + x.Start = e))
      rw [hE.out] at hz
      simp only at hz
      have HZ := Lib.hid hz
      have hc0 := gro_keeps hx0 os d
      have hc1 := gro_keeps hx1 os d
      have hki : (k : Int) < (imgs.length : Int) := by omega
      have hki2 : (k : Int) < (bases.length : Int) := by omega
      obtain ⟨code, syms⟩ := x
      simp only at hc0 hc1 bx0 bx1 hsy HZ hx0 hx1
      obtain ⟨_, _, hx', hsl, hsm⟩ := sl_at bx1
      injection hx' with e1 e2 e3
      subst e1 e3
      clear e2 hz hE hxk
      go_wp2_with (fail)
      have hGV : Gro Y ((gro Y os d).alloc (.cells #[.string code, .slice A syms.length c] 113)) := gG
      have ei := heap_alloc_new (gro Y os d) (.cells #[.string code, .slice A syms.length c] 113)
      obtain ⟨gi, hgi⟩ : ∃ gi, (gro Y os d).heap.size = gi := ⟨_, rfl⟩
      rw [hgi] at ei
      rw [gro_size] at hgi
      rw [hgi]
      generalize (gro Y os d).alloc (.cells #[.string code, .slice A syms.length c] 113) = V at hGV ei ⊢
      obtain ⟨v0, v1, _, _, vl⟩ := box2 ei
      have u1 := cell_up hGV y1
      have ul : g0 < V.heap.size := Nat.lt_of_lt_of_le yl hGV.size
      have ub := cell_up hGV hcb
      have ubl := World.block_lt_of_cell? _ _ ub
      simp only at ubl
      have ks := Ty.up _ bx1 hGV
      clear hc0 hc1 hx0 hx1 hgi bx1 hcb
      go_loopw [20] (fun x we => ∃ m : Nat, x = .int .i64 m ∧ m ≤ syms.length ∧ Hid ((syms.drop m).any (fun x => decide (b + x.Start = e)) = syms.any (fun x => decide (b + x.Start = e))) ∧ Hid (Gro V we)) (fun x _ => syms.length - (intOf x).toNat)
      case atStart => exact ⟨0, rfl, Nat.zero_le _, Lib.hid rfl, Lib.hid (Gro.refl _)⟩
      case round =>
        obtain ⟨m, rfl, hm, hI, hG⟩ := hrel
        obtain ⟨os2, d2, rfl⟩ := hG.out
        clear hG
        by_cases hml : m < syms.length
        · obtain ⟨g2, off2, y, rfl, hgb2, hyk, hy0, hy1, hy2, by0, by1, by2⟩ := atSymbol ks hml
          have hyb := btw_iff.1 (hsy y (List.mem_of_getElem? hyk))
          have ha := any_at hyk (fun x => decide (b + x.Start = e))
          rw [hI.out] at ha
          have n0 := gro_keeps hy0 os2 d2
          have n1 := gro_keeps hy1 os2 d2
          have n2 := gro_keeps hy2 os2 d2
          have u1' := gro_keeps u1 os2 d2
          have ub' := gro_keeps ub os2 d2
          have hmi : (m : Int) < (syms.length : Int) := by omega
          have w1 : IntKind.i64.wrap (b + y.Start) = b + y.Start := IntWalk.i64_in _ (by omega)
          by_cases hq : b + y.Start = e
          · have HQ := Lib.hid (show isEnt ⟨imgs, bases, es⟩ e = true from by rw [HZ.out, ha]; simp [hq])
            have hqb : (b + y.Start == e) = true := by simp [hq]
            clear ha hq hyk hI
            go_wp2_with (fail)
            go_quiet (fail)
            go_wp2_with (fail)
            go_ret
            exact ⟨ret_bool HQ.out.symm, (hG0.trans hGV).trans gF⟩
          · have hqb : (b + y.Start == e) = false := by simp [hq]
            have HA := Lib.hid (show (syms.drop (m + 1)).any (fun x => decide (b + x.Start = e)) = syms.any (fun x => decide (b + x.Start = e)) from by rw [ha]; simp [hq])
            clear ha hq hyk hI
            go_wp2_with (fail)
            go_quiet (fail)
            go_wp2_with (fail)
            go_roundw
            case measure => (simp [intOf]; try omega)
            case rel => exact ⟨m + 1, by go_num, by omega, HA, Lib.hid gG⟩
        · obtain rfl : m = syms.length := by omega
          have HF := Lib.hid (show ((imgs.zip bases).drop (k + 1)).any (fun p => p.1.Symbols.any fun x => decide (p.2 + x.Start = e)) = isEnt ⟨imgs, bases, es⟩ e from by
            have := hI.out
            rw [List.drop_length] at this
            rw [HZ.out, ← this]
            simp)
          clear hI
          go_wp2_with (fail)
          go_roundw
          case measure => (simp [intOf]; try omega)
          case rel => exact ⟨k + 1, by go_num, by omega, HF, Lib.hid (hGV.trans gF)⟩
    · obtain rfl : k = imgs.length := by omega
      have HF := Lib.hid (show isEnt ⟨imgs, bases, es⟩ e = false from by
        rw [← hE.out, List.drop_eq_nil_of_le (by rw [List.length_zip]; omega)]
        rfl)
      clear hE
      go_wp2_with (fail)
      go_ret
      exact ⟨ret_bool HF.out.symm, hG0.trans gF⟩
theorem starts_ok {i : DImage} (h : imageOk i = true) : ∀ y ∈ i.Symbols, btw y.Start 0 1000000 = true := by
  simp only [imageOk, Bool.and_eq_true, decide_eq_true_eq] at h
  intro y hy
  obtain ⟨_, h1, h2⟩ := sym_find h.1 i.Symbols [] 0 0 h.2 y hy
  exact btw_mk (by omega) (by omega)
theorem len_two {α : Type} {l : List α} (h : l.length = 2) : ∃ a b, l = [a, b] := by
  match l, h with
  | [a, b], _ => exact ⟨a, b, rfl⟩
theorem image_two {e : TypeId} {w : World} {B : Nat} {A0 : Option Addr} {n c0 : Nat} {i j : DImage} (h : (tImage.sl e).R w B [.slice A0 n c0] [i, j]) : ∃ g off A c A' c', A0 = some ⟨g, off, none⟩ ∧ g < B ∧ w.cell? ⟨g, off, none⟩ = some (.string i.Code) ∧ w.cell? ⟨g, off + 1, none⟩ = some (.slice A i.Symbols.length c) ∧ w.cell? ⟨g, off + 2, none⟩ = some (.string j.Code) ∧ w.cell? ⟨g, off + 2 + 1, none⟩ = some (.slice A' j.Symbols.length c') ∧
    i.Code.size ≤ 9223372036854775807 ∧ j.Code.size ≤ 9223372036854775807 ∧ (tSymbol.sl 193).R w B [.slice A i.Symbols.length c] i.Symbols ∧ (tSymbol.sl 193).R w B [.slice A' j.Symbols.length c'] j.Symbols := by
  obtain ⟨g, off, x, A, c, rfl, hgb, hxk, hx0, hx1, bx0, bx1⟩ := atImage h (k := 0) (by simp)
  obtain ⟨g', off', y, A', c', he, hgb', hyk, hy0, hy1, by0, by1⟩ := atImage h (k := 1) (by simp)
  injection he with he
  injection he with e1 e2
  subst e1 e2
  simp only [List.getElem?_cons_zero, List.getElem?_cons_succ, Option.some.injEq] at hxk hyk
  subst hxk hyk
  simp only [Nat.zero_mul, Nat.one_mul, Nat.add_zero] at hx0 hx1 hy0 hy1
  exact ⟨g, off, A, c, A', c', rfl, hgb, hx0, hx1, hy0, hy1, bx0, by0, bx1, by1⟩
theorem ints_two {e : TypeId} {w : World} {B : Nat} {A0 : Option Addr} {n c0 : Nat} {a b : Int} (h : (intT.sl e).R w B [.slice A0 n c0] [a, b]) : ∃ g off, A0 = some ⟨g, off, none⟩ ∧ w.cell? ⟨g, off, none⟩ = some (.int .i64 a) ∧ w.cell? ⟨g, off + 1, none⟩ = some (.int .i64 b) ∧ I64 a ∧ I64 b := by
  obtain ⟨g, off, x, rfl, hxk, hx0, bx1, bx2⟩ := ints_at h (k := 0) (by simp)
  obtain ⟨g', off', y, he, hyk, hy0, by1, by2⟩ := ints_at h (k := 1) (by simp)
  injection he with he
  injection he with e1 e2
  subst e1 e2
  simp only [List.getElem?_cons_zero, List.getElem?_cons_succ, Option.some.injEq] at hxk hyk
  subst hxk hyk
  simp only [Nat.add_zero] at hx0
  exact ⟨g, off, rfl, hx0, hy0, ⟨bx1, bx2⟩, ⟨by1, by2⟩⟩
def ovl (i j : DImage) (a b : Int) : Bool := decide (0 < i.Code.size) && decide (0 < j.Code.size) && decide (a < b + j.Code.size) && decide (b < a + i.Code.size)
theorem space_two {i j : DImage} {a b : Int} {es : List Int} : spaceOk ⟨[i, j], [a, b], es⟩ = (btw es.length 1 6 && (imageOk i && imageOk j) && (btw a 1 1000000 && btw b 1 1000000) && !ovl i j a b && es.all (isEnt ⟨[i, j], [a, b], es⟩)) := by
  simp [spaceOk, overlap, ovl]
theorem space_img {s : DSpace} (h : s.Images.length ≠ 2) : spaceOk s = false := by
  unfold spaceOk
  rw [decide_eq_false h]
  simp
theorem space_bas {s : DSpace} (h : s.Bases.length ≠ 2) : spaceOk s = false := by
  unfold spaceOk
  rw [decide_eq_false h]
  simp
theorem space_ent {s : DSpace} (h : btw s.Entries.length 1 6 = false) : spaceOk s = false := by
  unfold spaceOk
  rw [h]
  simp
theorem isEntry2_i {i j : DImage} {a b : Int} {es : List Int} {e : Int} {w : World} {A0 A1 A2 : Option Addr} {c0 c1 c2 : Nat} (h0 : (tImage.sl 113).R w w.heap.size [.slice A0 2 c0] [i, j]) (h1 : (intT.sl 3).R w w.heap.size [.slice A1 2 c1] [a, b])
    (hi : imageOk i = true) (hj : imageOk j = true) (ha : btw a 1 1000000 = true) (hb : btw b 1 1000000 = true) (he : I64 e) :
    Calls Tryz.prog 177 #[.agg #[.slice A0 2 c0, .slice A1 2 c1, .slice A2 es.length c2], .int .i64 e] w fun r w' => r = .returned (.bool (isEnt ⟨[i, j], [a, b], es⟩ e)) ∧ Gro w w' :=
  isEntry_i (imgs := [i, j]) (bases := [a, b]) h0 h1 rfl (fun x hx => by
    simp only [List.mem_cons, List.not_mem_nil, or_false] at hx
    rcases hx with rfl | rfl
    · exact starts_ok hi
    · exact starts_ok hj) (fun x hx => by
    simp only [List.mem_cons, List.not_mem_nil, or_false] at hx
    rcases hx with rfl | rfl
    · exact ha
    · exact hb) he
theorem all_at {α : Type} {xs : List α} {k : Nat} {x : α} (hx : xs[k]? = some x) (f : α → Bool) : (xs.drop k).all f = (f x && (xs.drop (k + 1)).all f) := by
  obtain ⟨hl, he⟩ := List.getElem?_eq_some_iff.1 hx
  rw [List.drop_eq_getElem_cons hl, he, List.all_cons]
set_option maxRecDepth 100000 in
set_option maxHeartbeats 8000000 in
theorem spaceOk_i {s : DSpace} {w : World} {A0 A1 A2 : Option Addr} {c0 c1 c2 : Nat} (h0 : (tImage.sl 113).R w w.heap.size [.slice A0 s.Images.length c0] s.Images) (h1 : (intT.sl 3).R w w.heap.size [.slice A1 s.Bases.length c1] s.Bases)
    (h2 : (intT.sl 3).R w w.heap.size [.slice A2 s.Entries.length c2] s.Entries) (hs : szSpace s ≤ 1099511627776) :
    Calls Tryz.prog 80 #[.agg #[.slice A0 s.Images.length c0, .slice A1 s.Bases.length c1, .slice A2 s.Entries.length c2]] w fun r w' => r = .returned (.bool (spaceOk s)) ∧ Gro w w' := by
  by_cases hi : s.Images.length = 2
  case neg =>
    have HQ := Lib.hid (space_img hi)
    have p1 : ((s.Images.length : Int) != 2) = true := by simp; omega
    clear hi
    go_enter Tryz.func80, Tryz.ntmps80
    go_wp2_with (fail)
    go_ret
    exact ⟨ret_bool HQ.out.symm, gG⟩
  by_cases hj : s.Bases.length = 2
  case neg =>
    have HQ := Lib.hid (space_bas hj)
    have p1 : ((s.Images.length : Int) != 2) = false := by simp; omega
    have p2 : ((s.Bases.length : Int) != 2) = true := by simp; omega
    clear hi hj
    go_enter Tryz.func80, Tryz.ntmps80
    go_wp2_with (fail)
    go_ret
    exact ⟨ret_bool HQ.out.symm, gG⟩
  cases he : btw s.Entries.length 1 6 with
  | false =>
    have HQ := Lib.hid (space_ent he)
    have HE := Lib.hid he
    have p1 : ((s.Images.length : Int) != 2) = false := by simp; omega
    have p2 : ((s.Bases.length : Int) != 2) = false := by simp; omega
    clear hi hj he
    go_enter Tryz.func80, Tryz.ntmps80
    go_wp2_with (go_at_call 73; (with_reducible refine (in_i _ _ _ _).mono ?_); rw [HE.out]; rintro e w1 ⟨rfl, rfl⟩)
    go_ret
    exact ⟨ret_bool HQ.out.symm, gG⟩
  | true =>
  obtain ⟨imgs, bases, es⟩ := s
  simp only at h0 h1 h2 hi hj he hs ⊢
  have HE := Lib.hid he
  have hel := btw_iff.1 he
  obtain ⟨i, j, rfl⟩ := len_two hi
  obtain ⟨a, b, rfl⟩ := len_two hj
  have HS := Lib.hid (@space_two i j a b es)
  rw [he] at HS
  clear hi hj he
  obtain ⟨_, _, hx', hzl, hzm⟩ := sl_at h2
  injection hx' with e1 e2 e3
  subst e1 e3
  clear e2
  have hsz : szImage i + szImage j + 2 + 2 + es.length ≤ 1099511627776 := by simp [szSpace, szL] at hs; omega
  have hci : i.Code.size ≤ 1099511627776 := by unfold szImage at hsz; omega
  have hcj : j.Code.size ≤ 1099511627776 := by unfold szImage at hsz; omega
  have hsi : i.Symbols.length ≤ 1099511627776 := by unfold szImage at hsz; have := szL_len szSymbol i.Symbols; omega
  have hsj : j.Symbols.length ≤ 1099511627776 := by unfold szImage at hsz; have := szL_len szSymbol j.Symbols; omega
  clear hsz hs
  simp only [List.length_cons, List.length_nil] at h0 h1 ⊢
  go_enter Tryz.func80, Tryz.ntmps80
  go_wp2_with (go_at_call 73; (with_reducible refine (in_i _ _ _ _).mono ?_); rw [HE.out]; rintro e w1 ⟨rfl, rfl⟩)
  have hG0 : Gro w (w.alloc (.cells #[.slice A0 2 c0, .slice A1 2 c1, .slice A2 es.length c2] 28)) := gG
  have eb := heap_alloc_new w (.cells #[.slice A0 2 c0, .slice A1 2 c1, .slice A2 es.length c2] 28)
  have k0 := Ty.up _ h0 hG0
  have k1 := Ty.up _ h1 hG0
  have k2 := Ty.up _ h2 hG0
  obtain ⟨g0, hg0⟩ : ∃ g0, w.heap.size = g0 := ⟨_, rfl⟩
  rw [hg0] at eb ⊢
  generalize w.alloc (.cells #[.slice A0 2 c0, .slice A1 2 c1, .slice A2 es.length c2] 28) = Y at hG0 eb k0 k1 k2 ⊢
  clear h0 h1 h2 hg0
  obtain ⟨y0, y1, y2, _, yl⟩ := box3 eb
  obtain ⟨gi, oi, Ai, ci, Aj, cj, rfl, hgi, i0, i1, j0, j1, bi0, bj0, bi1, bj1⟩ := image_two k0
  obtain ⟨gb, ob, rfl, b0, b1, ⟨ba1, ba2⟩, ⟨bb1, bb2⟩⟩ := ints_two k1
  have hgb := World.block_lt_of_cell? _ _ b0
  simp only at hgb
  go_loopw [28] (fun x wr => ((x = .int .i64 0) ∨ (x = .int .i64 1 ∧ imageOk i = true ∧ btw a 1 1000000 = true) ∨ (x = .int .i64 2 ∧ imageOk i = true ∧ btw a 1 1000000 = true ∧ imageOk j = true ∧ btw b 1 1000000 = true)) ∧ Hid (Gro Y wr)) (fun x _ => 2 - (intOf x).toNat)
  case atStart => exact ⟨.inl rfl, Lib.hid (Gro.refl _)⟩
  case round =>
    obtain ⟨hcase, hG⟩ := hrel
    obtain ⟨os, d, rfl⟩ := hG.out
    clear hG
    rcases hcase with rfl | ⟨rfl, hq1, hq2⟩ | ⟨rfl, hq1, hq2, hq3, hq4⟩
    · have d0 := gro_keeps i0 os d
      have d1 := gro_keeps i1 os d
      have d2 := gro_keeps b0 os d
      have z0 := gro_keeps y0 os d
      have z1 := gro_keeps y1 os d
      obtain ⟨ik, hk⟩ : ∃ ik, imageOk i = ik := ⟨_, rfl⟩
      cases ik with
      | false =>
        have HK := Lib.hid hk
        have HQ := Lib.hid (show spaceOk ⟨[i, j], [a, b], es⟩ = false from by rw [HS.out, hk]; simp)
        clear hk
        go_wp2_with (go_at_call 176; (with_reducible refine (imageOk_i (i := i) (Ty.up _ bi1 gG) hci hsi).mono ?_); rw [HK.out]; rintro e w1 ⟨rfl, os1, d1, rfl⟩)
        go_ret
        exact ⟨ret_bool HQ.out.symm, hG0.trans gF⟩
      | true =>
        obtain ⟨bk, hb⟩ : ∃ bk, btw a 1 1000000 = bk := ⟨_, rfl⟩
        cases bk with
        | false =>
          have HK := Lib.hid hk
          have HB := Lib.hid hb
          have HQ := Lib.hid (show spaceOk ⟨[i, j], [a, b], es⟩ = false from by rw [HS.out, hb]; simp)
          clear hk hb
          go_wp2_with (first
            | (go_at_call 176; (with_reducible refine (imageOk_i (i := i) (Ty.up _ bi1 gG) hci hsi).mono ?_); rw [HK.out]; rintro e w1 ⟨rfl, os1, d1, rfl⟩)
            | (go_at_call 73; (with_reducible refine (in_i _ _ _ _).mono ?_); rw [HB.out]; rintro e w1 ⟨rfl, rfl⟩))
          go_ret
          exact ⟨ret_bool HQ.out.symm, hG0.trans gF⟩
        | true =>
          have HK := Lib.hid hk
          have HB := Lib.hid hb
          clear hk hb
          go_wp2_with (first
            | (go_at_call 176; (with_reducible refine (imageOk_i (i := i) (Ty.up _ bi1 gG) hci hsi).mono ?_); rw [HK.out]; rintro e w1 ⟨rfl, os1, d1, rfl⟩)
            | (go_at_call 73; (with_reducible refine (in_i _ _ _ _).mono ?_); rw [HB.out]; rintro e w1 ⟨rfl, rfl⟩))
          go_roundw
          case measure => (simp [intOf]; try omega)
          case rel => exact ⟨.inr (.inl ⟨rfl, HK.out, HB.out⟩), Lib.hid gG⟩
    · have d0 := gro_keeps j0 os d
      have d1 := gro_keeps j1 os d
      have d2 := gro_keeps b1 os d
      have z0 := gro_keeps y0 os d
      have z1 := gro_keeps y1 os d
      obtain ⟨ik, hk⟩ : ∃ ik, imageOk j = ik := ⟨_, rfl⟩
      cases ik with
      | false =>
        have HK := Lib.hid hk
        have HQ := Lib.hid (show spaceOk ⟨[i, j], [a, b], es⟩ = false from by rw [HS.out, hk]; simp)
        clear hk
        go_wp2_with (go_at_call 176; (with_reducible refine (imageOk_i (i := j) (Ty.up _ bj1 gG) hcj hsj).mono ?_); rw [HK.out]; rintro e w1 ⟨rfl, os1, d1, rfl⟩)
        go_ret
        exact ⟨ret_bool HQ.out.symm, hG0.trans gF⟩
      | true =>
        obtain ⟨bk, hb⟩ : ∃ bk, btw b 1 1000000 = bk := ⟨_, rfl⟩
        cases bk with
        | false =>
          have HK := Lib.hid hk
          have HB := Lib.hid hb
          have HQ := Lib.hid (show spaceOk ⟨[i, j], [a, b], es⟩ = false from by rw [HS.out, hb]; simp)
          clear hk hb
          go_wp2_with (first
            | (go_at_call 176; (with_reducible refine (imageOk_i (i := j) (Ty.up _ bj1 gG) hcj hsj).mono ?_); rw [HK.out]; rintro e w1 ⟨rfl, os1, d1, rfl⟩)
            | (go_at_call 73; (with_reducible refine (in_i _ _ _ _).mono ?_); rw [HB.out]; rintro e w1 ⟨rfl, rfl⟩))
          go_ret
          exact ⟨ret_bool HQ.out.symm, hG0.trans gF⟩
        | true =>
          have HK := Lib.hid hk
          have HB := Lib.hid hb
          clear hk hb
          go_wp2_with (first
            | (go_at_call 176; (with_reducible refine (imageOk_i (i := j) (Ty.up _ bj1 gG) hcj hsj).mono ?_); rw [HK.out]; rintro e w1 ⟨rfl, os1, d1, rfl⟩)
            | (go_at_call 73; (with_reducible refine (in_i _ _ _ _).mono ?_); rw [HB.out]; rintro e w1 ⟨rfl, rfl⟩))
          go_roundw
          case measure => (simp [intOf]; try omega)
          case rel => exact ⟨.inr (.inr ⟨rfl, hq1, hq2, HK.out, HB.out⟩), Lib.hid gG⟩
    · have i0' := gro_keeps i0 os d
      have j0' := gro_keeps j0 os d
      have b0' := gro_keeps b0 os d
      have b1' := gro_keeps b1 os d
      have z0 := gro_keeps y0 os d
      have z1 := gro_keeps y1 os d
      have z2 := gro_keeps y2 os d
      have ra := btw_iff.1 hq2
      have rb := btw_iff.1 hq4
      have HS2 : spaceOk ⟨[i, j], [a, b], es⟩ = (!ovl i j a b && es.all (isEnt ⟨[i, j], [a, b], es⟩)) := by rw [HS.out, hq1, hq2, hq3, hq4]; simp
      have HS3 := Lib.hid HS2
      clear HS2 HS
      have HI := Lib.hid hq1
      have HJ := Lib.hid hq3
      have HA := Lib.hid hq2
      have HB := Lib.hid hq4
      clear hq1 hq2 hq3 hq4
      go_wp2_with (fail)
      go_quiet (fail)
      have hGX : Gro Y ((gro Y os d).drewN nq) := gG
      generalize (gro Y os d).drewN nq = X at hGX ⊢
      clear i0' j0' b0' b1' z0 z1 z2
      have i0' := cell_up hGX i0
      have j0' := cell_up hGX j0
      have b0' := cell_up hGX b0
      have b1' := cell_up hGX b1
      have z0 := cell_up hGX y0
      have z1 := cell_up hGX y1
      have z2 := cell_up hGX y2
      have w1 : IntKind.i64.wrap (b + (j.Code.size : Int)) = b + (j.Code.size : Int) := IntWalk.i64_in _ ⟨by omega, by omega⟩
      have w2 : IntKind.i64.wrap (a + (i.Code.size : Int)) = a + (i.Code.size : Int) := IntWalk.i64_in _ ⟨by omega, by omega⟩
      go_upto_region 10 with fail
      go_cut [91] from 60 to 91 (fun r wx => r = .bool (ovl i j a b) ∧ Hid (Gro X wx))
      case first =>
        by_cases q0 : (0 : Int) < (i.Code.size : Int)
        · have r0 : decide ((0 : Int) < (i.Code.size : Int)) = true := decide_eq_true q0
          have s0 : 0 < i.Code.size := by omega
          have t0 : decide (0 < i.Code.size) = true := decide_eq_true s0
          by_cases q1 : (0 : Int) < (j.Code.size : Int)
          · have r1 : decide ((0 : Int) < (j.Code.size : Int)) = true := decide_eq_true q1
            have s1 : 0 < j.Code.size := by omega
            have t1 : decide (0 < j.Code.size) = true := decide_eq_true s1
            by_cases q2 : a < b + (j.Code.size : Int)
            · have r2 : decide (a < b + (j.Code.size : Int)) = true := decide_eq_true q2
              by_cases q3 : b < a + (i.Code.size : Int)
              · have r3 : decide (b < a + (i.Code.size : Int)) = true := decide_eq_true q3
                go_quiet (fail)
                go_wp2_with (fail)
                go_meet
                exact ⟨by unfold ovl; rw [t0, t1, r2, r3]; simp, Lib.hid gG⟩
              · have r3 : decide (b < a + (i.Code.size : Int)) = false := decide_eq_false q3
                go_quiet (fail)
                go_wp2_with (fail)
                go_meet
                exact ⟨by unfold ovl; rw [t0, t1, r2, r3]; simp, Lib.hid gG⟩
            · have r2 : decide (a < b + (j.Code.size : Int)) = false := decide_eq_false q2
              go_quiet (fail)
              go_wp2_with (fail)
              go_meet
              exact ⟨by unfold ovl; rw [t0, t1, r2]; simp, Lib.hid gG⟩
          · have r1 : decide ((0 : Int) < (j.Code.size : Int)) = false := decide_eq_false q1
            have s1 : ¬ 0 < j.Code.size := by omega
            have t1 : decide (0 < j.Code.size) = false := decide_eq_false s1
            go_quiet (fail)
            go_wp2_with (fail)
            go_meet
            exact ⟨by unfold ovl; rw [t0, t1]; simp, Lib.hid gG⟩
        · have r0 : decide ((0 : Int) < (i.Code.size : Int)) = false := decide_eq_false q0
          have s0 : ¬ 0 < i.Code.size := by omega
          have t0 : decide (0 < i.Code.size) = false := decide_eq_false s0
          go_quiet (fail)
          go_wp2_with (fail)
          go_meet
          exact ⟨by unfold ovl; rw [t0]; simp, Lib.hid gG⟩
      case rest =>
        obtain ⟨rfl, hGw⟩ := hcut
        have hYw : Gro Y wc := hGX.trans hGw.out
        have hGc : Gro w wc := hG0.trans hYw
        clear i0' j0' b0' b1' z0 z1 z2 hGX hGw
        obtain ⟨vb, hv⟩ : ∃ vb, ovl i j a b = vb := ⟨_, rfl⟩
        rw [hv]
        cases vb with
        | true =>
          have HQ := Lib.hid (show spaceOk ⟨[i, j], [a, b], es⟩ = false from by rw [HS3.out, hv]; rfl)
          clear hv
          go_wp2_with (fail)
          go_ret
          exact ⟨ret_bool HQ.out.symm, hGc⟩
        | false =>
          have HQ := Lib.hid (show spaceOk ⟨[i, j], [a, b], es⟩ = es.all (isEnt ⟨[i, j], [a, b], es⟩) from by rw [HS3.out, hv]; rfl)
          have z0 := cell_up hYw y0
          have z1 := cell_up hYw y1
          have z2 := cell_up hYw y2
          have zl : g0 < wc.heap.size := Nat.lt_of_lt_of_le yl hYw.size
          have m0 := Ty.up _ k0 hYw
          have m1 := Ty.up _ k1 hYw
          have m2 := Ty.up _ k2 hYw
          clear hv HS3 w1 w2
          go_wp2_with (fail)
          go_loopw [95] (fun x wr => ∃ k : Nat, x = .int .i64 k ∧ k ≤ es.length ∧ Hid ((es.drop k).all (isEnt ⟨[i, j], [a, b], es⟩) = es.all (isEnt ⟨[i, j], [a, b], es⟩)) ∧ Hid (Gro wc wr)) (fun x _ => es.length - (intOf x).toNat)
          case atStart => exact ⟨0, rfl, Nat.zero_le _, Lib.hid rfl, Lib.hid (Gro.refl _)⟩
          case round =>
            obtain ⟨k, rfl, hk, hE, hG⟩ := hrel
            obtain ⟨os, d, rfl⟩ := hG.out
            clear hG
            by_cases hlt : k < es.length
            · obtain ⟨ge, oe, e, rfl, hek, hce, be1, be2⟩ := ints_at m2 hlt
              have ha := all_at hek (isEnt ⟨[i, j], [a, b], es⟩)
              rw [hE.out] at ha
              have hc := gro_keeps hce os d
              have z0' := gro_keeps z0 os d
              have z1' := gro_keeps z1 os d
              have z2' := gro_keeps z2 os d
              have hki : (k : Int) < (es.length : Int) := by omega
              have he64 : I64 e := ⟨be1, be2⟩
              clear hek hE
              obtain ⟨vb, hv⟩ : ∃ vb, isEnt ⟨[i, j], [a, b], es⟩ e = vb := ⟨_, rfl⟩
              rw [hv] at ha
              have HV := Lib.hid hv
              clear hv
              cases vb with
              | false =>
                have HF := Lib.hid (show spaceOk ⟨[i, j], [a, b], es⟩ = false from by rw [HQ.out, ha]; rfl)
                clear ha
                go_wp2_with (go_at_call 177; (with_reducible refine (isEntry2_i (i := i) (j := j) (a := a) (b := b) (es := es) (e := e) (Ty.up _ m0 gG) (Ty.up _ m1 gG) HI.out HJ.out HA.out HB.out he64).mono ?_); rw [HV.out]; rintro e w1 ⟨rfl, os1, d1, rfl⟩)
                go_ret
                exact ⟨ret_bool HF.out.symm, hGc.trans gF⟩
              | true =>
                have HF := Lib.hid (show (es.drop (k + 1)).all (isEnt ⟨[i, j], [a, b], es⟩) = es.all (isEnt ⟨[i, j], [a, b], es⟩) from by rw [ha]; rfl)
                clear ha
                go_wp2_with (go_at_call 177; (with_reducible refine (isEntry2_i (i := i) (j := j) (a := a) (b := b) (es := es) (e := e) (Ty.up _ m0 gG) (Ty.up _ m1 gG) HI.out HJ.out HA.out HB.out he64).mono ?_); rw [HV.out]; rintro e w1 ⟨rfl, os1, d1, rfl⟩)
                go_roundw
                case measure => (simp [intOf]; try omega)
                case rel => exact ⟨k + 1, by go_num, by omega, HF, Lib.hid gG⟩
            · obtain rfl : k = es.length := by omega
              have HF := Lib.hid (show spaceOk ⟨[i, j], [a, b], es⟩ = true from by rw [HQ.out, ← hE.out, List.drop_length]; rfl)
              clear hE
              go_wp2_with (fail)
              go_ret
              exact ⟨ret_bool HF.out.symm, hGc.trans gF⟩
end Go.Proofs.YtgodpjnbhmahaaaGreat
namespace Go.Proofs.YtgodpjnbhmahaaaGreat
open Go.RowKit
theorem locGo_at {imgs : List DImage} {bases : List Int} {k : Nat} {x : DImage} {b : Int} (hx : imgs[k]? = some x) (hb : bases[k]? = some b) (e : Int) : locGo (imgs.drop k) (bases.drop k) e k = if b ≤ e ∧ e < b + x.Code.size then ((k : Int), e - b) else locGo (imgs.drop (k + 1)) (bases.drop (k + 1)) e (k + 1) := by
  obtain ⟨h1, rfl⟩ := List.getElem?_eq_some_iff.1 hx
  obtain ⟨h2, rfl⟩ := List.getElem?_eq_some_iff.1 hb
  rw [List.drop_eq_getElem_cons h1, List.drop_eq_getElem_cons h2]
  rfl
theorem locGo_nil (bases : List Int) (e : Int) (k : Nat) : locGo [] bases e k = (-1, -1) := by
  cases bases <;> rfl
def RetTwo (p : Int × Int) (w : World) (r : Ending) (w' : World) : Prop := r = .returned (.tuple #[.int .i64 p.1, .int .i64 p.2]) ∧ Gro w w'
theorem ret_two {p q : Int × Int} (h : p = q) {w w' : World} (hG : Gro w w') : RetTwo p w (.returned (.tuple #[.int .i64 q.1, .int .i64 q.2])) w' := by
  subst h
  exact ⟨rfl, hG⟩
set_option maxRecDepth 100000 in
set_option maxHeartbeats 4000000 in
theorem locate_s {imgs : List DImage} {bases es : List Int} {e : Int} {w : World} {A0 A1 A2 : Option Addr} {c0 c1 c2 : Nat} (h0 : (tImage.sl 113).R w w.heap.size [.slice A0 imgs.length c0] imgs) (h1 : (intT.sl 3).R w w.heap.size [.slice A1 bases.length c1] bases)
    (hl : imgs.length = bases.length) (hst : ∀ x ∈ imgs, x.Code.size ≤ 1099511627776) (hbs : ∀ b ∈ bases, btw b 1 1000000 = true) (he : I64 e) :
    Calls Tryz.prog 171 #[.agg #[.slice A0 imgs.length c0, .slice A1 bases.length c1, .slice A2 es.length c2], .int .i64 e] w (RetTwo (locGo imgs bases e 0) w) := by
  obtain ⟨_, _, hx', hxl, hcm⟩ := sl_at h0
  injection hx' with e1 e2 e3
  subst e1 e3
  clear e2
  obtain ⟨_, _, hx', hyl, hdm⟩ := sl_at h1
  injection hx' with e1 e2 e3
  subst e1 e3
  clear e2
  obtain ⟨he1, he2⟩ := he
  have hl2 := Nat.le_of_eq hl
  clear hl
  go_enter Tryz.func171, Tryz.ntmps171
  go_wp2_with (fail)
  have hG0 : Gro w (w.alloc (.cells #[.slice A0 imgs.length c0, .slice A1 bases.length c1, .slice A2 es.length c2] 28)) := gG
  have eb := heap_alloc_new w (.cells #[.slice A0 imgs.length c0, .slice A1 bases.length c1, .slice A2 es.length c2] 28)
  have k0 := Ty.up _ h0 hG0
  have k1 := Ty.up _ h1 hG0
  obtain ⟨g0, hg0⟩ : ∃ g0, w.heap.size = g0 := ⟨_, rfl⟩
  rw [hg0] at eb ⊢
  generalize w.alloc (.cells #[.slice A0 imgs.length c0, .slice A1 bases.length c1, .slice A2 es.length c2] 28) = Y at hG0 eb k0 k1 ⊢
  clear h0 h1 hg0
  obtain ⟨y0, y1, _, _, yl⟩ := box3 eb
  go_loopw [6] (fun x wr => ∃ k : Nat, x = .int .i64 k ∧ k ≤ imgs.length ∧ Hid (locGo (imgs.drop k) (bases.drop k) e k = locGo imgs bases e 0) ∧ Hid (Gro Y wr)) (fun x _ => imgs.length - (intOf x).toNat)
  case atStart => exact ⟨0, rfl, Nat.zero_le _, Lib.hid rfl, Lib.hid (Gro.refl _)⟩
  case round =>
    obtain ⟨k, rfl, hk, hE, hG⟩ := hrel
    obtain ⟨os, d, rfl⟩ := hG.out
    clear hG
    by_cases hlt : k < imgs.length
    · obtain ⟨g, off, x, A, c, rfl, hgb, hxk, hx0, hx1, bx0, bx1⟩ := atImage k0 hlt
      obtain ⟨gb, offb, b, rfl, hbk, hcb, bb1, bb2⟩ := ints_at k1 (k := k) (by omega)
      have hbb := btw_iff.1 (hbs b (List.mem_of_getElem? hbk))
      have hsz := hst x (List.mem_of_getElem? hxk)
      have hz := locGo_at hxk hbk e
      rw [hE.out] at hz
      have hc0 := gro_keeps hx0 os d
      have hcb' := gro_keeps hcb os d
      have z0 := gro_keeps y0 os d
      have z1 := gro_keeps y1 os d
      have hki : (k : Int) < (imgs.length : Int) := by omega
      have hki2 : (k : Int) < (bases.length : Int) := by omega
      have w1 : IntKind.i64.wrap (b + (x.Code.size : Int)) = b + (x.Code.size : Int) := IntWalk.i64_in _ (by omega)
      clear hxk hbk hE
      by_cases q0 : b ≤ e
      · have r0 : decide (b ≤ e) = true := decide_eq_true q0
        by_cases q1 : e < b + (x.Code.size : Int)
        · have r1 : decide (e < b + (x.Code.size : Int)) = true := decide_eq_true q1
          have w2 : IntKind.i64.wrap (e - b) = e - b := IntWalk.i64_in _ (by omega)
          have HQ := Lib.hid (show locGo imgs bases e 0 = ((k : Int), e - b) from by rw [hz, if_pos ⟨q0, q1⟩])
          clear hz
          go_wp2_with (fail)
          go_quiet (fail)
          go_wp2_with (fail)
          go_quiet (fail)
          go_wp2_with (fail)
          go_ret2
          exact ret_two (q := ((k : Int), e - b)) HQ.out (hG0.trans gF)
        · have r1 : decide (e < b + (x.Code.size : Int)) = false := decide_eq_false q1
          have HE := Lib.hid (show locGo (imgs.drop (k + 1)) (bases.drop (k + 1)) e (k + 1) = locGo imgs bases e 0 from by rw [hz, if_neg (fun h => q1 h.2)])
          clear hz
          go_wp2_with (fail)
          go_quiet (fail)
          go_wp2_with (fail)
          go_roundw
          case measure => (simp [intOf]; try omega)
          case rel => exact ⟨k + 1, by go_num, by omega, HE, Lib.hid gG⟩
      · have r0 : decide (b ≤ e) = false := decide_eq_false q0
        have HE := Lib.hid (show locGo (imgs.drop (k + 1)) (bases.drop (k + 1)) e (k + 1) = locGo imgs bases e 0 from by rw [hz, if_neg (fun h => q0 h.1)])
        clear hz
        go_wp2_with (fail)
        go_quiet (fail)
        go_wp2_with (fail)
        go_roundw
        case measure => (simp [intOf]; try omega)
        case rel => exact ⟨k + 1, by go_num, by omega, HE, Lib.hid gG⟩
    · obtain rfl : k = imgs.length := by omega
      have HQ := Lib.hid (show locGo imgs bases e 0 = (-1, -1) from by rw [← hE.out, List.drop_length]; exact locGo_nil _ _ _)
      have z0 := gro_keeps y0 os d
      clear hE
      go_wp2_with (fail)
      go_ret2
      exact ret_two (q := (-1, -1)) HQ.out (hG0.trans gF)
set_option maxRecDepth 100000 in
set_option maxHeartbeats 4000000 in
theorem locate_i {imgs : List DImage} {bases es : List Int} {e : Int} {w : World} {A0 A1 A2 : Option Addr} {c0 c1 c2 : Nat} (h0 : (tImage.sl 113).R w w.heap.size [.slice A0 imgs.length c0] imgs) (h1 : (intT.sl 3).R w w.heap.size [.slice A1 bases.length c1] bases)
    (hl : imgs.length = bases.length) (hst : ∀ x ∈ imgs, x.Code.size ≤ 1099511627776) (hbs : ∀ b ∈ bases, btw b 1 1000000 = true) (he : I64 e) :
    Calls Tryz.prog 263 #[.agg #[.slice A0 imgs.length c0, .slice A1 bases.length c1, .slice A2 es.length c2], .int .i64 e] w (RetTwo (locGo imgs bases e 0) w) := by
  obtain ⟨_, _, hx', hxl, hcm⟩ := sl_at h0
  injection hx' with e1 e2 e3
  subst e1 e3
  clear e2
  obtain ⟨_, _, hx', hyl, hdm⟩ := sl_at h1
  injection hx' with e1 e2 e3
  subst e1 e3
  clear e2
  obtain ⟨he1, he2⟩ := he
  have hl2 := Nat.le_of_eq hl
  clear hl
  go_enter Tryz.func263, Tryz.ntmps263
  go_wp2_with (fail)
  have hG0 : Gro w (w.alloc (.cells #[.slice A0 imgs.length c0, .slice A1 bases.length c1, .slice A2 es.length c2] 28)) := gG
  have eb := heap_alloc_new w (.cells #[.slice A0 imgs.length c0, .slice A1 bases.length c1, .slice A2 es.length c2] 28)
  have k0 := Ty.up _ h0 hG0
  have k1 := Ty.up _ h1 hG0
  obtain ⟨g0, hg0⟩ : ∃ g0, w.heap.size = g0 := ⟨_, rfl⟩
  rw [hg0] at eb ⊢
  generalize w.alloc (.cells #[.slice A0 imgs.length c0, .slice A1 bases.length c1, .slice A2 es.length c2] 28) = Y at hG0 eb k0 k1 ⊢
  clear h0 h1 hg0
  obtain ⟨y0, y1, _, _, yl⟩ := box3 eb
  go_loopw [11] (fun x wr => ∃ k : Nat, x = .int .i64 k ∧ k ≤ imgs.length ∧ Hid (locGo (imgs.drop k) (bases.drop k) e k = locGo imgs bases e 0) ∧ Hid (Gro Y wr)) (fun x _ => imgs.length - (intOf x).toNat)
  case atStart => exact ⟨0, rfl, Nat.zero_le _, Lib.hid rfl, Lib.hid (Gro.refl _)⟩
  case round =>
    obtain ⟨k, rfl, hk, hE, hG⟩ := hrel
    obtain ⟨os, d, rfl⟩ := hG.out
    clear hG
    by_cases hlt : k < imgs.length
    · obtain ⟨g, off, x, A, c, rfl, hgb, hxk, hx0, hx1, bx0, bx1⟩ := atImage k0 hlt
      obtain ⟨gb, offb, b, rfl, hbk, hcb, bb1, bb2⟩ := ints_at k1 (k := k) (by omega)
      have hbl := World.block_lt_of_cell? _ _ hcb
      simp only at hbl
      have hbb := btw_iff.1 (hbs b (List.mem_of_getElem? hbk))
      have hsz := hst x (List.mem_of_getElem? hxk)
      have hz := locGo_at hxk hbk e
      rw [hE.out] at hz
      have hc0 := gro_keeps hx0 os d
      have hc1 := gro_keeps hx1 os d
      have hcb' := gro_keeps hcb os d
      have z0 := gro_keeps y0 os d
      have z1 := gro_keeps y1 os d
      have hki : (k : Int) < (imgs.length : Int) := by omega
      have hki2 : (k : Int) < (bases.length : Int) := by omega
      have w1 : IntKind.i64.wrap (b + (x.Code.size : Int)) = b + (x.Code.size : Int) := IntWalk.i64_in _ (by omega)
      have w3 : IntKind.i64.wrap (b + (x.Code.size : Int) - 1) = b + (x.Code.size : Int) - 1 := IntWalk.i64_in _ (by omega)
      clear hxk hbk hE
      by_cases q : b ≤ e ∧ e < b + (x.Code.size : Int)
      · have hv : btw e b (b + (x.Code.size : Int) - 1) = true := btw_mk q.1 (by omega)
        have HQ := Lib.hid (show locGo imgs bases e 0 = ((k : Int), e - b) from by rw [hz, if_pos q])
        have w2 : IntKind.i64.wrap (e - b) = e - b := IntWalk.i64_in _ (by omega)
        clear hz q
        go_wp2_with (fail)
        go_quiet ((first | (go_at_call 73; with_reducible exact in_iv hv _ _)))
        go_wp2_with (fail)
        go_quiet (fail)
        go_wp2_with (fail)
        go_ret2
        exact ret_two (q := ((k : Int), e - b)) HQ.out (hG0.trans gF)
      · have hv : btw e b (b + (x.Code.size : Int) - 1) = false := by
          cases h : btw e b (b + (x.Code.size : Int) - 1)
          · rfl
          · exact absurd ⟨(btw_iff.1 h).1, by have := (btw_iff.1 h).2; omega⟩ q
        have HE := Lib.hid (show locGo (imgs.drop (k + 1)) (bases.drop (k + 1)) e (k + 1) = locGo imgs bases e 0 from by rw [hz, if_neg q])
        clear hz q
        go_wp2_with (fail)
        go_quiet ((first | (go_at_call 73; with_reducible exact in_iv hv _ _)))
        go_wp2_with (fail)
        go_roundw
        case measure => (simp [intOf]; try omega)
        case rel => exact ⟨k + 1, by go_num, by omega, HE, Lib.hid gG⟩
    · obtain rfl : k = imgs.length := by omega
      have HQ := Lib.hid (show locGo imgs bases e 0 = (-1, -1) from by rw [← hE.out, List.drop_length]; exact locGo_nil _ _ _)
      have z0 := gro_keeps y0 os d
      clear hE
      go_wp2_with (fail)
      go_ret2
      exact ret_two (q := (-1, -1)) HQ.out (hG0.trans gF)
end Go.Proofs.YtgodpjnbhmahaaaGreat
namespace Go.Proofs.YtgodpjnbhmahaaaGreat
open Go.RowKit
theorem symGo_at {syms : List DSymbol} {k : Nat} {x : DSymbol} (hx : syms[k]? = some x) (off : Int) : symGo (syms.drop k) off k = if symHit x off = true then (k : Int) else symGo (syms.drop (k + 1)) off (k + 1) := by
  obtain ⟨h1, rfl⟩ := List.getElem?_eq_some_iff.1 hx
  rw [List.drop_eq_getElem_cons h1]
  rfl
set_option maxRecDepth 100000 in
set_option maxHeartbeats 4000000 in
theorem symAt_s {i : DImage} {off : Int} {w : World} {A : Option Addr} {c : Nat} (h1 : (tSymbol.sl 193).R w w.heap.size [.slice A i.Symbols.length c] i.Symbols) (ho : I64 off) :
    Calls Tryz.prog 172 #[.agg #[.string i.Code, .slice A i.Symbols.length c], .int .i64 off] w fun r w' => r = .returned (.int .i64 (symGo i.Symbols off 0)) ∧ Gro w w' := by
  obtain ⟨_, _, hx', hxl, hcm⟩ := sl_at h1
  injection hx' with e1 e2 e3
  subst e1 e3
  clear e2
  obtain ⟨code, syms⟩ := i
  simp only at h1 hxl hcm ⊢
  obtain ⟨ho1, ho2⟩ := ho
  go_enter Tryz.func172, Tryz.ntmps172
  go_wp2_with (fail)
  have hG0 : Gro w (w.alloc (.cells #[.string code, .slice A syms.length c] 113)) := gG
  have eb := heap_alloc_new w (.cells #[.string code, .slice A syms.length c] 113)
  have h2 := Ty.up _ h1 hG0
  obtain ⟨g0, hg0⟩ : ∃ g0, w.heap.size = g0 := ⟨_, rfl⟩
  rw [hg0] at eb ⊢
  generalize w.alloc (.cells #[.string code, .slice A syms.length c] 113) = Y at hG0 eb h2 ⊢
  clear h1 hg0
  obtain ⟨y0, y1, _, _, yl⟩ := box2 eb
  go_loopw [5] (fun x wr => ∃ (j : Nat), x = .int .i64 j ∧ j ≤ syms.length ∧ Hid (symGo (syms.drop j) off j = symGo syms off 0) ∧ Hid (Gro Y wr)) (fun y _ => syms.length - (intOf y).toNat)
  case atStart => exact ⟨0, rfl, Nat.zero_le _, Lib.hid rfl, Lib.hid (Gro.refl _)⟩
  case round =>
    obtain ⟨j, rfl, hj, hE, hG⟩ := hrel
    obtain ⟨os, d, rfl⟩ := hG.out
    clear hG
    by_cases hlt : j < syms.length
    · obtain ⟨g, offs, x, rfl, hgb, hxk, hx0, hx1, hx2, bx0, bx1, bx2⟩ := atSymbol h2 hlt
      have hF := symGo_at hxk off
      rw [hE.out] at hF
      have hc0 := gro_keeps hx0 os d
      have hc1 := gro_keeps hx1 os d
      have hc2 := gro_keeps hx2 os d
      have z0 := gro_keeps y0 os d
      have z1 := gro_keeps y1 os d
      have hji : (j : Int) < (syms.length : Int) := by omega
      clear hE hxk
      obtain ⟨nm, st, sz⟩ := x
      simp only at hF hc0 hc1 hc2
      have hno : symHit ⟨nm, st, sz⟩ off = false → symGo (syms.drop (j + 1)) off (j + 1) = symGo syms off 0 := fun h => by rw [hF, h]; rfl
      have hyes : symHit ⟨nm, st, sz⟩ off = true → symGo syms off 0 = (j : Int) := fun h => by rw [hF, h]; rfl
      clear hF
      obtain ⟨b0, hb0⟩ : ∃ b, btw st 0 1000000 = b := ⟨_, rfl⟩
      obtain ⟨b1, hb1⟩ : ∃ b, btw sz 0 1000000 = b := ⟨_, rfl⟩
      have HB0 := Lib.hid hb0
      have HB1 := Lib.hid hb1
      cases b0 with
      | false =>
        have HE := Lib.hid (hno (by simp [symHit, hb0]))
        clear hno hyes hb0 hb1
        go_wp2_with (go_at_call 78; (with_reducible refine (in_s _ _ _ _).mono ?_); rw [HB0.out]; rintro e w1 ⟨rfl, rfl⟩)
        go_roundw
        case measure => (simp [intOf]; try omega)
        case rel => exact ⟨j + 1, by go_num, by omega, HE, Lib.hid gG⟩
      | true =>
        cases b1 with
        | false =>
          have HE := Lib.hid (hno (by simp [symHit, hb1]))
          clear hno hyes hb0 hb1
          go_wp2_with (go_at_call 78; (with_reducible refine (in_s _ _ _ _).mono ?_); first | (rw [HB0.out]; rintro e w1 ⟨rfl, rfl⟩) | (rw [HB1.out]; rintro e w1 ⟨rfl, rfl⟩))
          go_roundw
          case measure => (simp [intOf]; try omega)
          case rel => exact ⟨j + 1, by go_num, by omega, HE, Lib.hid gG⟩
        | true =>
          have r0 := btw_iff.1 hb0
          have r1 := btw_iff.1 hb1
          have w1 : IntKind.i64.wrap (st + sz) = st + sz := IntWalk.i64_in _ ⟨by omega, by omega⟩
          by_cases q2 : st ≤ off
          case neg =>
            have s2 : decide (st ≤ off) = false := decide_eq_false q2
            have HE := Lib.hid (hno (by simp [symHit, q2]))
            clear hno hyes hb0 hb1
            go_wp2_with (go_at_call 78; (with_reducible refine (in_s _ _ _ _).mono ?_); first | (rw [HB0.out]; rintro e w1 ⟨rfl, rfl⟩) | (rw [HB1.out]; rintro e w1 ⟨rfl, rfl⟩))
            go_roundw
            case measure => (simp [intOf]; try omega)
            case rel => exact ⟨j + 1, by go_num, by omega, HE, Lib.hid gG⟩
          have s2 : decide (st ≤ off) = true := decide_eq_true q2
          by_cases q3 : off < st + sz
          case neg =>
            have s3 : decide (off < st + sz) = false := decide_eq_false q3
            have HE := Lib.hid (hno (by simp [symHit, q3]))
            clear hno hyes hb0 hb1
            go_wp2_with (go_at_call 78; (with_reducible refine (in_s _ _ _ _).mono ?_); first | (rw [HB0.out]; rintro e w1 ⟨rfl, rfl⟩) | (rw [HB1.out]; rintro e w1 ⟨rfl, rfl⟩))
            go_roundw
            case measure => (simp [intOf]; try omega)
            case rel => exact ⟨j + 1, by go_num, by omega, HE, Lib.hid gG⟩
          have s3 : decide (off < st + sz) = true := decide_eq_true q3
          have HE := Lib.hid (hyes (by simp [symHit, q2, q3, hb0, hb1]))
          clear hno hyes hb0 hb1
          go_wp2_with (go_at_call 78; (with_reducible refine (in_s _ _ _ _).mono ?_); first | (rw [HB0.out]; rintro e w1 ⟨rfl, rfl⟩) | (rw [HB1.out]; rintro e w1 ⟨rfl, rfl⟩))
          go_ret
          exact ⟨ret_int HE.out.symm, hG0.trans gF⟩
    · obtain rfl : j = syms.length := by omega
      have HQ := Lib.hid (show symGo syms off 0 = -1 from by rw [← hE.out, List.drop_length]; rfl)
      have z0 := gro_keeps y0 os d
      have z1 := gro_keeps y1 os d
      clear hE
      go_wp2_with (fail)
      go_ret
      exact ⟨ret_int HQ.out.symm, hG0.trans gF⟩
theorem locate2_s {i j : DImage} {a b : Int} {es : List Int} {e : Int} {w : World} {A0 A1 A2 : Option Addr} {c0 c1 c2 : Nat} (h0 : (tImage.sl 113).R w w.heap.size [.slice A0 2 c0] [i, j]) (h1 : (intT.sl 3).R w w.heap.size [.slice A1 2 c1] [a, b])
    (hi : i.Code.size ≤ 1099511627776) (hj : j.Code.size ≤ 1099511627776) (ha : btw a 1 1000000 = true) (hb : btw b 1 1000000 = true) (he : I64 e) :
    Calls Tryz.prog 171 #[.agg #[.slice A0 2 c0, .slice A1 2 c1, .slice A2 es.length c2], .int .i64 e] w (RetTwo (locGo [i, j] [a, b] e 0) w) :=
  locate_s (imgs := [i, j]) (bases := [a, b]) h0 h1 rfl (fun x hx => by
    simp only [List.mem_cons, List.not_mem_nil, or_false] at hx
    rcases hx with rfl | rfl
    · exact hi
    · exact hj) (fun x hx => by
    simp only [List.mem_cons, List.not_mem_nil, or_false] at hx
    rcases hx with rfl | rfl
    · exact ha
    · exact hb) he
set_option maxRecDepth 100000 in
set_option maxHeartbeats 8000000 in
theorem spaceOk_s {s : DSpace} {w : World} {A0 A1 A2 : Option Addr} {c0 c1 c2 : Nat} (h0 : (tImage.sl 113).R w w.heap.size [.slice A0 s.Images.length c0] s.Images) (h1 : (intT.sl 3).R w w.heap.size [.slice A1 s.Bases.length c1] s.Bases)
    (h2 : (intT.sl 3).R w w.heap.size [.slice A2 s.Entries.length c2] s.Entries) (hs : szSpace s ≤ 1099511627776) :
    Calls Tryz.prog 76 #[.agg #[.slice A0 s.Images.length c0, .slice A1 s.Bases.length c1, .slice A2 s.Entries.length c2]] w fun r w' => r = .returned (.bool (spaceOk s)) ∧ Gro w w' := by
  by_cases hi : s.Images.length = 2
  case neg =>
    have HQ := Lib.hid (space_img hi)
    have p1 : ((s.Images.length : Int) != 2) = true := by simp; omega
    clear hi
    go_enter Tryz.func76, Tryz.ntmps76
    go_wp2_with (fail)
    go_ret
    exact ⟨ret_bool HQ.out.symm, gG⟩
  by_cases hj : s.Bases.length = 2
  case neg =>
    have HQ := Lib.hid (space_bas hj)
    have p1 : ((s.Images.length : Int) != 2) = false := by simp; omega
    have p2 : ((s.Bases.length : Int) != 2) = true := by simp; omega
    clear hi hj
    go_enter Tryz.func76, Tryz.ntmps76
    go_wp2_with (fail)
    go_ret
    exact ⟨ret_bool HQ.out.symm, gG⟩
  cases he : btw s.Entries.length 1 6 with
  | false =>
    have HQ := Lib.hid (space_ent he)
    have HE := Lib.hid he
    have p1 : ((s.Images.length : Int) != 2) = false := by simp; omega
    have p2 : ((s.Bases.length : Int) != 2) = false := by simp; omega
    clear hi hj he
    go_enter Tryz.func76, Tryz.ntmps76
    go_wp2_with (go_at_call 78; (with_reducible refine (in_s _ _ _ _).mono ?_); rw [HE.out]; rintro e w1 ⟨rfl, rfl⟩)
    go_ret
    exact ⟨ret_bool HQ.out.symm, gG⟩
  | true =>
  obtain ⟨imgs, bases, es⟩ := s
  simp only at h0 h1 h2 hi hj he hs ⊢
  have HE := Lib.hid he
  have hel := btw_iff.1 he
  obtain ⟨i, j, rfl⟩ := len_two hi
  obtain ⟨a, b, rfl⟩ := len_two hj
  have HS := Lib.hid (@space_two i j a b es)
  rw [he] at HS
  clear hi hj he
  obtain ⟨_, _, hx', hzl, hzm⟩ := sl_at h2
  injection hx' with e1 e2 e3
  subst e1 e3
  clear e2
  have hsz : szImage i + szImage j + 2 + 2 + es.length ≤ 1099511627776 := by simp [szSpace, szL] at hs; omega
  have hci : i.Code.size ≤ 1099511627776 := by unfold szImage at hsz; omega
  have hcj : j.Code.size ≤ 1099511627776 := by unfold szImage at hsz; omega
  have hsi : i.Symbols.length ≤ 1099511627776 := by unfold szImage at hsz; have := szL_len szSymbol i.Symbols; omega
  have hsj : j.Symbols.length ≤ 1099511627776 := by unfold szImage at hsz; have := szL_len szSymbol j.Symbols; omega
  clear hsz hs
  simp only [List.length_cons, List.length_nil] at h0 h1 ⊢
  go_enter Tryz.func76, Tryz.ntmps76
  go_wp2_with (go_at_call 78; (with_reducible refine (in_s _ _ _ _).mono ?_); rw [HE.out]; rintro e w1 ⟨rfl, rfl⟩)
  have hG0 : Gro w (w.alloc (.cells #[.slice A0 2 c0, .slice A1 2 c1, .slice A2 es.length c2] 28)) := gG
  have eb := heap_alloc_new w (.cells #[.slice A0 2 c0, .slice A1 2 c1, .slice A2 es.length c2] 28)
  have k0 := Ty.up _ h0 hG0
  have k1 := Ty.up _ h1 hG0
  have k2 := Ty.up _ h2 hG0
  obtain ⟨g0, hg0⟩ : ∃ g0, w.heap.size = g0 := ⟨_, rfl⟩
  rw [hg0] at eb ⊢
  generalize w.alloc (.cells #[.slice A0 2 c0, .slice A1 2 c1, .slice A2 es.length c2] 28) = Y at hG0 eb k0 k1 k2 ⊢
  clear h0 h1 h2 hg0
  obtain ⟨y0, y1, y2, _, yl⟩ := box3 eb
  obtain ⟨gi, oi, Ai, ci, Aj, cj, rfl, hgi, i0, i1, j0, j1, bi0, bj0, bi1, bj1⟩ := image_two k0
  obtain ⟨gb, ob, rfl, b0, b1, ⟨ba1, ba2⟩, ⟨bb1, bb2⟩⟩ := ints_two k1
  have hgb := World.block_lt_of_cell? _ _ b0
  simp only at hgb
  go_loopw [3] (fun x wr => ((x = .int .i64 0) ∨ (x = .int .i64 1 ∧ imageOk i = true ∧ btw a 1 1000000 = true) ∨ (x = .int .i64 2 ∧ imageOk i = true ∧ btw a 1 1000000 = true ∧ imageOk j = true ∧ btw b 1 1000000 = true)) ∧ Hid (Gro Y wr)) (fun x _ => 2 - (intOf x).toNat)
  case atStart => exact ⟨.inl rfl, Lib.hid (Gro.refl _)⟩
  case round =>
    obtain ⟨hcase, hG⟩ := hrel
    obtain ⟨os, d, rfl⟩ := hG.out
    clear hG
    rcases hcase with rfl | ⟨rfl, hq1, hq2⟩ | ⟨rfl, hq1, hq2, hq3, hq4⟩
    · have d0 := gro_keeps i0 os d
      have d1 := gro_keeps i1 os d
      have d2 := gro_keeps b0 os d
      have z0 := gro_keeps y0 os d
      have z1 := gro_keeps y1 os d
      obtain ⟨ik, hk⟩ : ∃ ik, imageOk i = ik := ⟨_, rfl⟩
      cases ik with
      | false =>
        have HK := Lib.hid hk
        have HQ := Lib.hid (show spaceOk ⟨[i, j], [a, b], es⟩ = false from by rw [HS.out, hk]; simp)
        clear hk
        go_wp2_with (go_at_call 170; (with_reducible refine (imageOk_s (i := i) (Ty.up _ bi1 gG) hci hsi).mono ?_); rw [HK.out]; rintro e w1 ⟨rfl, os1, d1, rfl⟩)
        go_ret
        exact ⟨ret_bool HQ.out.symm, hG0.trans gF⟩
      | true =>
        obtain ⟨bk, hb⟩ : ∃ bk, btw a 1 1000000 = bk := ⟨_, rfl⟩
        cases bk with
        | false =>
          have HK := Lib.hid hk
          have HB := Lib.hid hb
          have HQ := Lib.hid (show spaceOk ⟨[i, j], [a, b], es⟩ = false from by rw [HS.out, hb]; simp)
          clear hk hb
          go_wp2_with (first
            | (go_at_call 170; (with_reducible refine (imageOk_s (i := i) (Ty.up _ bi1 gG) hci hsi).mono ?_); rw [HK.out]; rintro e w1 ⟨rfl, os1, d1, rfl⟩)
            | (go_at_call 78; (with_reducible refine (in_s _ _ _ _).mono ?_); rw [HB.out]; rintro e w1 ⟨rfl, rfl⟩))
          go_ret
          exact ⟨ret_bool HQ.out.symm, hG0.trans gF⟩
        | true =>
          have HK := Lib.hid hk
          have HB := Lib.hid hb
          clear hk hb
          go_wp2_with (first
            | (go_at_call 170; (with_reducible refine (imageOk_s (i := i) (Ty.up _ bi1 gG) hci hsi).mono ?_); rw [HK.out]; rintro e w1 ⟨rfl, os1, d1, rfl⟩)
            | (go_at_call 78; (with_reducible refine (in_s _ _ _ _).mono ?_); rw [HB.out]; rintro e w1 ⟨rfl, rfl⟩))
          go_roundw
          case measure => (simp [intOf]; try omega)
          case rel => exact ⟨.inr (.inl ⟨rfl, HK.out, HB.out⟩), Lib.hid gG⟩
    · have d0 := gro_keeps j0 os d
      have d1 := gro_keeps j1 os d
      have d2 := gro_keeps b1 os d
      have z0 := gro_keeps y0 os d
      have z1 := gro_keeps y1 os d
      obtain ⟨ik, hk⟩ : ∃ ik, imageOk j = ik := ⟨_, rfl⟩
      cases ik with
      | false =>
        have HK := Lib.hid hk
        have HQ := Lib.hid (show spaceOk ⟨[i, j], [a, b], es⟩ = false from by rw [HS.out, hk]; simp)
        clear hk
        go_wp2_with (go_at_call 170; (with_reducible refine (imageOk_s (i := j) (Ty.up _ bj1 gG) hcj hsj).mono ?_); rw [HK.out]; rintro e w1 ⟨rfl, os1, d1, rfl⟩)
        go_ret
        exact ⟨ret_bool HQ.out.symm, hG0.trans gF⟩
      | true =>
        obtain ⟨bk, hb⟩ : ∃ bk, btw b 1 1000000 = bk := ⟨_, rfl⟩
        cases bk with
        | false =>
          have HK := Lib.hid hk
          have HB := Lib.hid hb
          have HQ := Lib.hid (show spaceOk ⟨[i, j], [a, b], es⟩ = false from by rw [HS.out, hb]; simp)
          clear hk hb
          go_wp2_with (first
            | (go_at_call 170; (with_reducible refine (imageOk_s (i := j) (Ty.up _ bj1 gG) hcj hsj).mono ?_); rw [HK.out]; rintro e w1 ⟨rfl, os1, d1, rfl⟩)
            | (go_at_call 78; (with_reducible refine (in_s _ _ _ _).mono ?_); rw [HB.out]; rintro e w1 ⟨rfl, rfl⟩))
          go_ret
          exact ⟨ret_bool HQ.out.symm, hG0.trans gF⟩
        | true =>
          have HK := Lib.hid hk
          have HB := Lib.hid hb
          clear hk hb
          go_wp2_with (first
            | (go_at_call 170; (with_reducible refine (imageOk_s (i := j) (Ty.up _ bj1 gG) hcj hsj).mono ?_); rw [HK.out]; rintro e w1 ⟨rfl, os1, d1, rfl⟩)
            | (go_at_call 78; (with_reducible refine (in_s _ _ _ _).mono ?_); rw [HB.out]; rintro e w1 ⟨rfl, rfl⟩))
          go_roundw
          case measure => (simp [intOf]; try omega)
          case rel => exact ⟨.inr (.inr ⟨rfl, hq1, hq2, HK.out, HB.out⟩), Lib.hid gG⟩
    · have i0' := gro_keeps i0 os d
      have j0' := gro_keeps j0 os d
      have b0' := gro_keeps b0 os d
      have b1' := gro_keeps b1 os d
      have z0 := gro_keeps y0 os d
      have z1 := gro_keeps y1 os d
      have z2 := gro_keeps y2 os d
      have ra := btw_iff.1 hq2
      have rb := btw_iff.1 hq4
      have HS2 : spaceOk ⟨[i, j], [a, b], es⟩ = (!ovl i j a b && es.all (isEnt ⟨[i, j], [a, b], es⟩)) := by rw [HS.out, hq1, hq2, hq3, hq4]; simp
      have HS3 := Lib.hid HS2
      clear HS2 HS
      have HI := Lib.hid hq1
      have HJ := Lib.hid hq3
      have HA := Lib.hid hq2
      have HB := Lib.hid hq4
      clear hq1 hq2 hq3 hq4
      have hGX : Gro Y (gro Y os d) := gG
      generalize gro Y os d = X at hGX ⊢
      clear i0' j0' b0' b1' z0 z1 z2
      have i0' := cell_up hGX i0
      have j0' := cell_up hGX j0
      have b0' := cell_up hGX b0
      have b1' := cell_up hGX b1
      have z0 := cell_up hGX y0
      have z1 := cell_up hGX y1
      have z2 := cell_up hGX y2
      have w1 : IntKind.i64.wrap (b + (j.Code.size : Int)) = b + (j.Code.size : Int) := IntWalk.i64_in _ ⟨by omega, by omega⟩
      have w2 : IntKind.i64.wrap (a + (i.Code.size : Int)) = a + (i.Code.size : Int) := IntWalk.i64_in _ ⟨by omega, by omega⟩
      go_upto_region 10 with fail
      go_cut [90] from 59 to 90 (fun r wx => r = .bool (ovl i j a b) ∧ Hid (Gro X wx))
      case first =>
        by_cases q0 : (0 : Int) < (i.Code.size : Int)
        · have r0 : decide ((0 : Int) < (i.Code.size : Int)) = true := decide_eq_true q0
          have s0 : 0 < i.Code.size := by omega
          have t0 : decide (0 < i.Code.size) = true := decide_eq_true s0
          by_cases q1 : (0 : Int) < (j.Code.size : Int)
          · have r1 : decide ((0 : Int) < (j.Code.size : Int)) = true := decide_eq_true q1
            have s1 : 0 < j.Code.size := by omega
            have t1 : decide (0 < j.Code.size) = true := decide_eq_true s1
            by_cases q2 : a < b + (j.Code.size : Int)
            · have r2 : decide (a < b + (j.Code.size : Int)) = true := decide_eq_true q2
              by_cases q3 : b < a + (i.Code.size : Int)
              · have r3 : decide (b < a + (i.Code.size : Int)) = true := decide_eq_true q3
                go_quiet (fail)
                go_wp2_with (fail)
                go_meet
                exact ⟨by unfold ovl; rw [t0, t1, r2, r3]; simp, Lib.hid gG⟩
              · have r3 : decide (b < a + (i.Code.size : Int)) = false := decide_eq_false q3
                go_quiet (fail)
                go_wp2_with (fail)
                go_meet
                exact ⟨by unfold ovl; rw [t0, t1, r2, r3]; simp, Lib.hid gG⟩
            · have r2 : decide (a < b + (j.Code.size : Int)) = false := decide_eq_false q2
              go_quiet (fail)
              go_wp2_with (fail)
              go_meet
              exact ⟨by unfold ovl; rw [t0, t1, r2]; simp, Lib.hid gG⟩
          · have r1 : decide ((0 : Int) < (j.Code.size : Int)) = false := decide_eq_false q1
            have s1 : ¬ 0 < j.Code.size := by omega
            have t1 : decide (0 < j.Code.size) = false := decide_eq_false s1
            go_quiet (fail)
            go_wp2_with (fail)
            go_meet
            exact ⟨by unfold ovl; rw [t0, t1]; simp, Lib.hid gG⟩
        · have r0 : decide ((0 : Int) < (i.Code.size : Int)) = false := decide_eq_false q0
          have s0 : ¬ 0 < i.Code.size := by omega
          have t0 : decide (0 < i.Code.size) = false := decide_eq_false s0
          go_quiet (fail)
          go_wp2_with (fail)
          go_meet
          exact ⟨by unfold ovl; rw [t0]; simp, Lib.hid gG⟩
      case rest =>
        obtain ⟨rfl, hGw⟩ := hcut
        have hYw : Gro Y wc := hGX.trans hGw.out
        have hGc : Gro w wc := hG0.trans hYw
        clear i0' j0' b0' b1' z0 z1 z2 hGX hGw
        obtain ⟨vb, hv⟩ : ∃ vb, ovl i j a b = vb := ⟨_, rfl⟩
        rw [hv]
        cases vb with
        | true =>
          have HQ := Lib.hid (show spaceOk ⟨[i, j], [a, b], es⟩ = false from by rw [HS3.out, hv]; rfl)
          clear hv
          go_wp2_with (fail)
          go_ret
          exact ⟨ret_bool HQ.out.symm, hGc⟩
        | false =>
          have HQ := Lib.hid (show spaceOk ⟨[i, j], [a, b], es⟩ = es.all (isEnt ⟨[i, j], [a, b], es⟩) from by rw [HS3.out, hv]; rfl)
          have z0 := cell_up hYw y0
          have z1 := cell_up hYw y1
          have z2 := cell_up hYw y2
          have zl : g0 < wc.heap.size := Nat.lt_of_lt_of_le yl hYw.size
          have m0 := Ty.up _ k0 hYw
          have m1 := Ty.up _ k1 hYw
          have m2 := Ty.up _ k2 hYw
          have HOV := Lib.hid (show ¬ (0 < i.Code.size ∧ 0 < j.Code.size ∧ a < b + j.Code.size ∧ b < a + i.Code.size) from fun h => by
            unfold ovl at hv
            rw [decide_eq_true h.1, decide_eq_true h.2.1, decide_eq_true h.2.2.1, decide_eq_true h.2.2.2] at hv
            cases hv)
          clear hv HS3 w1 w2
          go_wp2_with (fail)
          have HENT := Lib.hid (fun e => ent_eq (es := es) HI.out HJ.out (btw_iff.1 HA.out).1 (btw_iff.1 HB.out).1 (show ¬ (0 < i.Code.size ∧ 0 < j.Code.size ∧ a < b + j.Code.size ∧ b < a + i.Code.size) from HOV.out) e)
          have wi0 := cell_up hYw i0
          have wi1 := cell_up hYw i1
          have wj0 := cell_up hYw j0
          have wj1 := cell_up hYw j1
          have hgiw : gi < wc.heap.size := Nat.lt_of_lt_of_le hgi hYw.size
          go_loopw [6] (fun x wr => ∃ k : Nat, x = .int .i64 k ∧ k ≤ es.length ∧ Hid ((es.drop k).all (isEnt ⟨[i, j], [a, b], es⟩) = es.all (isEnt ⟨[i, j], [a, b], es⟩)) ∧ Hid (Gro wc wr)) (fun x _ => es.length - (intOf x).toNat)
          case atStart => exact ⟨0, rfl, Nat.zero_le _, Lib.hid rfl, Lib.hid (Gro.refl _)⟩
          case round =>
            obtain ⟨k, rfl, hk, hE, hG⟩ := hrel
            obtain ⟨os, d, rfl⟩ := hG.out
            clear hG
            by_cases hlt : k < es.length
            · obtain ⟨ge, oe, e, rfl, hek, hce, be1, be2⟩ := ints_at m2 hlt
              have ha := all_at hek (isEnt ⟨[i, j], [a, b], es⟩)
              rw [hE.out] at ha
              have hc := gro_keeps hce os d
              have hel2 := World.block_lt_of_cell? _ _ hce
              simp only at hel2
              have z0' := gro_keeps z0 os d
              have z1' := gro_keeps z1 os d
              have z2' := gro_keeps z2 os d
              have hki : (k : Int) < (es.length : Int) := by omega
              have he64 : I64 e := ⟨be1, be2⟩
              clear hek hE
              have hno : isEnt ⟨[i, j], [a, b], es⟩ e = false → spaceOk ⟨[i, j], [a, b], es⟩ = false := fun h => by rw [HQ.out, ha, h]; rfl
              have hyes : isEnt ⟨[i, j], [a, b], es⟩ e = true → (es.drop (k + 1)).all (isEnt ⟨[i, j], [a, b], es⟩) = es.all (isEnt ⟨[i, j], [a, b], es⟩) := fun h => by rw [ha, h]; rfl
              rw [← HENT.out e] at hno hyes
              clear ha
              have hloc : (locGo [i, j] [a, b] e 0 = (0, e - a) ∧ a ≤ e ∧ e < a + i.Code.size) ∨ (locGo [i, j] [a, b] e 0 = (1, e - b) ∧ b ≤ e ∧ e < b + j.Code.size) ∨ locGo [i, j] [a, b] e 0 = (-1, -1) := by
                simp only [locGo]
                split
                · rename_i h; exact .inl ⟨rfl, h.1, h.2⟩
                · split
                  · rename_i h; exact .inr (.inl ⟨rfl, h.1, h.2⟩)
                  · exact .inr (.inr rfl)
              rcases hloc with ⟨hloc, q1, q2⟩ | ⟨hloc, q1, q2⟩ | hloc
              · have HL := Lib.hid hloc
                obtain ⟨off, hoff⟩ : ∃ off, e - a = off := ⟨_, rfl⟩
                have ho64 : I64 off := ⟨by omega, by omega⟩
                have hsg := symGo_some i.Symbols off 0
                rcases hsg with hsg | ⟨m, y, hsg, hym, _⟩
                · have HF := Lib.hid (hno (by simp [entS, loc, hloc, hoff, hsg]; split <;> rfl))
                  have HN := Lib.hid hsg
                  rw [hoff] at HL
                  clear hno hyes hloc hsg hoff
                  go_wp2_with (fail)
                  go_region_held3 (fun w' => w'.cell? ⟨g0, 0, none⟩ = some (.slice (some ⟨gi, oi, none⟩) 2 c0) ∧ w'.cell? ⟨g0, 1, none⟩ = some (.slice (some ⟨gb, ob, none⟩) 2 c1) ∧ w'.cell? ⟨g0, 2, none⟩ = some (.slice (some ⟨ge, oe, none⟩) es.length c2) ∧ w'.cell? ⟨ge, oe + k, none⟩ = some (.int .i64 e)) ((repeat' apply And.intro) <;> (first | ((repeat (first | assumption | with_reducible refine gro_keeps ?_ _ _ | with_reducible refine alloc_keeps ?_ _ | with_reducible refine drew_keeps ?_)); done) | (simp [go_sem]; done))) (first
                    | (go_at_call 171; (with_reducible refine (locate2_s (i := i) (j := j) (a := a) (b := b) (es := es) (e := e) (Ty.up _ m0 gG) (Ty.up _ m1 gG) hci hcj HA.out HB.out he64).mono ?_); rw [HL.out]; rintro e w1 ⟨rfl, os1, d1, rfl⟩))
                  go_wp2_with (go_at_call 172; (with_reducible refine (symAt_s (i := i) (Ty.up _ bi1 gG) ho64).mono ?_); rw [HN.out]; rintro e w2 ⟨rfl, os2, d2, rfl⟩)
                  go_ret
                  exact ⟨ret_bool HF.out.symm, hGc.trans gF⟩
                · rw [Nat.zero_add] at hsg
                  have hml : m < i.Symbols.length := (List.getElem?_eq_some_iff.1 hym).1
                  obtain ⟨gs, osy, y', hAe, hgs, hyk, hy0, hy1, hy2, by0, by1, by2⟩ := atSymbol bi1 hml
                  subst hAe
                  obtain rfl : y' = y := by rw [hyk] at hym; exact Option.some.inj hym
                  have hval : entS ⟨[i, j], [a, b], es⟩ e = decide (y'.Start = off) := by simp [entS, loc, hloc, hoff, hsg, hyk]
                  rw [hval] at hno hyes
                  have HN := Lib.hid hsg
                  rw [hoff] at HL
                  have hmi : (m : Int) < (i.Symbols.length : Int) := by omega
                  have v1 := cell_up hYw hy1
                  have hgsw : gs < wc.heap.size := Nat.lt_of_lt_of_le hgs hYw.size
                  have hgsY := hgs
                  clear hloc hsg hoff hyk hym hval
                  by_cases q3 : y'.Start = off
                  · have HF := Lib.hid (hyes (decide_eq_true q3))
                    have p3 : (y'.Start != off) = false := by simp [q3]
                    have p4 : decide ((m : Int) < 0) = false := decide_eq_false (by omega)
                    clear hno hyes q3
                    go_wp2_with (fail)
                    go_region_held3 (fun w' => w'.cell? ⟨g0, 0, none⟩ = some (.slice (some ⟨gi, oi, none⟩) 2 c0) ∧ w'.cell? ⟨g0, 1, none⟩ = some (.slice (some ⟨gb, ob, none⟩) 2 c1) ∧ w'.cell? ⟨g0, 2, none⟩ = some (.slice (some ⟨ge, oe, none⟩) es.length c2) ∧ w'.cell? ⟨ge, oe + k, none⟩ = some (.int .i64 e)) ((repeat' apply And.intro) <;> (first | ((repeat (first | assumption | with_reducible refine gro_keeps ?_ _ _ | with_reducible refine alloc_keeps ?_ _ | with_reducible refine drew_keeps ?_)); done) | (simp [go_sem]; done))) (first
                      | (go_at_call 171; (with_reducible refine (locate2_s (i := i) (j := j) (a := a) (b := b) (es := es) (e := e) (Ty.up _ m0 gG) (Ty.up _ m1 gG) hci hcj HA.out HB.out he64).mono ?_); rw [HL.out]; rintro e w1 ⟨rfl, os1, d1, rfl⟩))
                    go_wp2_with (go_at_call 172; (with_reducible refine (symAt_s (i := i) (Ty.up _ bi1 gG) ho64).mono ?_); rw [HN.out]; rintro e w2 ⟨rfl, os2, d2, rfl⟩)
                    go_roundw
                    case measure => (simp [intOf]; try omega)
                    case rel => exact ⟨k + 1, by go_num, by omega, HF, Lib.hid gG⟩
                  · have HF := Lib.hid (hno (decide_eq_false q3))
                    have p3 : (y'.Start != off) = true := by simp [q3]
                    have p4 : decide ((m : Int) < 0) = false := decide_eq_false (by omega)
                    clear hno hyes q3
                    go_wp2_with (fail)
                    go_region_held3 (fun w' => w'.cell? ⟨g0, 0, none⟩ = some (.slice (some ⟨gi, oi, none⟩) 2 c0) ∧ w'.cell? ⟨g0, 1, none⟩ = some (.slice (some ⟨gb, ob, none⟩) 2 c1) ∧ w'.cell? ⟨g0, 2, none⟩ = some (.slice (some ⟨ge, oe, none⟩) es.length c2) ∧ w'.cell? ⟨ge, oe + k, none⟩ = some (.int .i64 e)) ((repeat' apply And.intro) <;> (first | ((repeat (first | assumption | with_reducible refine gro_keeps ?_ _ _ | with_reducible refine alloc_keeps ?_ _ | with_reducible refine drew_keeps ?_)); done) | (simp [go_sem]; done))) (first
                      | (go_at_call 171; (with_reducible refine (locate2_s (i := i) (j := j) (a := a) (b := b) (es := es) (e := e) (Ty.up _ m0 gG) (Ty.up _ m1 gG) hci hcj HA.out HB.out he64).mono ?_); rw [HL.out]; rintro e w1 ⟨rfl, os1, d1, rfl⟩))
                    go_wp2_with (go_at_call 172; (with_reducible refine (symAt_s (i := i) (Ty.up _ bi1 gG) ho64).mono ?_); rw [HN.out]; rintro e w2 ⟨rfl, os2, d2, rfl⟩)
                    go_ret
                    exact ⟨ret_bool HF.out.symm, hGc.trans gF⟩
              · have HL := Lib.hid hloc
                obtain ⟨off, hoff⟩ : ∃ off, e - b = off := ⟨_, rfl⟩
                have ho64 : I64 off := ⟨by omega, by omega⟩
                have hsg := symGo_some j.Symbols off 0
                rcases hsg with hsg | ⟨m, y, hsg, hym, _⟩
                · have HF := Lib.hid (hno (by simp [entS, loc, hloc, hoff, hsg]; split <;> rfl))
                  have HN := Lib.hid hsg
                  rw [hoff] at HL
                  clear hno hyes hloc hsg hoff
                  go_wp2_with (fail)
                  go_region_held3 (fun w' => w'.cell? ⟨g0, 0, none⟩ = some (.slice (some ⟨gi, oi, none⟩) 2 c0) ∧ w'.cell? ⟨g0, 1, none⟩ = some (.slice (some ⟨gb, ob, none⟩) 2 c1) ∧ w'.cell? ⟨g0, 2, none⟩ = some (.slice (some ⟨ge, oe, none⟩) es.length c2) ∧ w'.cell? ⟨ge, oe + k, none⟩ = some (.int .i64 e)) ((repeat' apply And.intro) <;> (first | ((repeat (first | assumption | with_reducible refine gro_keeps ?_ _ _ | with_reducible refine alloc_keeps ?_ _ | with_reducible refine drew_keeps ?_)); done) | (simp [go_sem]; done))) (first
                    | (go_at_call 171; (with_reducible refine (locate2_s (i := i) (j := j) (a := a) (b := b) (es := es) (e := e) (Ty.up _ m0 gG) (Ty.up _ m1 gG) hci hcj HA.out HB.out he64).mono ?_); rw [HL.out]; rintro e w1 ⟨rfl, os1, d1, rfl⟩))
                  go_wp2_with (go_at_call 172; (with_reducible refine (symAt_s (i := j) (Ty.up _ bj1 gG) ho64).mono ?_); rw [HN.out]; rintro e w2 ⟨rfl, os2, d2, rfl⟩)
                  go_ret
                  exact ⟨ret_bool HF.out.symm, hGc.trans gF⟩
                · rw [Nat.zero_add] at hsg
                  have hml : m < j.Symbols.length := (List.getElem?_eq_some_iff.1 hym).1
                  obtain ⟨gs, osy, y', hAe, hgs, hyk, hy0, hy1, hy2, by0, by1, by2⟩ := atSymbol bj1 hml
                  subst hAe
                  obtain rfl : y' = y := by rw [hyk] at hym; exact Option.some.inj hym
                  have hval : entS ⟨[i, j], [a, b], es⟩ e = decide (y'.Start = off) := by simp [entS, loc, hloc, hoff, hsg, hyk]
                  rw [hval] at hno hyes
                  have HN := Lib.hid hsg
                  rw [hoff] at HL
                  have hmi : (m : Int) < (j.Symbols.length : Int) := by omega
                  have v1 := cell_up hYw hy1
                  have hgsw : gs < wc.heap.size := Nat.lt_of_lt_of_le hgs hYw.size
                  have hgsY := hgs
                  clear hloc hsg hoff hyk hym hval
                  by_cases q3 : y'.Start = off
                  · have HF := Lib.hid (hyes (decide_eq_true q3))
                    have p3 : (y'.Start != off) = false := by simp [q3]
                    have p4 : decide ((m : Int) < 0) = false := decide_eq_false (by omega)
                    clear hno hyes q3
                    go_wp2_with (fail)
                    go_region_held3 (fun w' => w'.cell? ⟨g0, 0, none⟩ = some (.slice (some ⟨gi, oi, none⟩) 2 c0) ∧ w'.cell? ⟨g0, 1, none⟩ = some (.slice (some ⟨gb, ob, none⟩) 2 c1) ∧ w'.cell? ⟨g0, 2, none⟩ = some (.slice (some ⟨ge, oe, none⟩) es.length c2) ∧ w'.cell? ⟨ge, oe + k, none⟩ = some (.int .i64 e)) ((repeat' apply And.intro) <;> (first | ((repeat (first | assumption | with_reducible refine gro_keeps ?_ _ _ | with_reducible refine alloc_keeps ?_ _ | with_reducible refine drew_keeps ?_)); done) | (simp [go_sem]; done))) (first
                      | (go_at_call 171; (with_reducible refine (locate2_s (i := i) (j := j) (a := a) (b := b) (es := es) (e := e) (Ty.up _ m0 gG) (Ty.up _ m1 gG) hci hcj HA.out HB.out he64).mono ?_); rw [HL.out]; rintro e w1 ⟨rfl, os1, d1, rfl⟩))
                    go_wp2_with (go_at_call 172; (with_reducible refine (symAt_s (i := j) (Ty.up _ bj1 gG) ho64).mono ?_); rw [HN.out]; rintro e w2 ⟨rfl, os2, d2, rfl⟩)
                    go_roundw
                    case measure => (simp [intOf]; try omega)
                    case rel => exact ⟨k + 1, by go_num, by omega, HF, Lib.hid gG⟩
                  · have HF := Lib.hid (hno (decide_eq_false q3))
                    have p3 : (y'.Start != off) = true := by simp [q3]
                    have p4 : decide ((m : Int) < 0) = false := decide_eq_false (by omega)
                    clear hno hyes q3
                    go_wp2_with (fail)
                    go_region_held3 (fun w' => w'.cell? ⟨g0, 0, none⟩ = some (.slice (some ⟨gi, oi, none⟩) 2 c0) ∧ w'.cell? ⟨g0, 1, none⟩ = some (.slice (some ⟨gb, ob, none⟩) 2 c1) ∧ w'.cell? ⟨g0, 2, none⟩ = some (.slice (some ⟨ge, oe, none⟩) es.length c2) ∧ w'.cell? ⟨ge, oe + k, none⟩ = some (.int .i64 e)) ((repeat' apply And.intro) <;> (first | ((repeat (first | assumption | with_reducible refine gro_keeps ?_ _ _ | with_reducible refine alloc_keeps ?_ _ | with_reducible refine drew_keeps ?_)); done) | (simp [go_sem]; done))) (first
                      | (go_at_call 171; (with_reducible refine (locate2_s (i := i) (j := j) (a := a) (b := b) (es := es) (e := e) (Ty.up _ m0 gG) (Ty.up _ m1 gG) hci hcj HA.out HB.out he64).mono ?_); rw [HL.out]; rintro e w1 ⟨rfl, os1, d1, rfl⟩))
                    go_wp2_with (go_at_call 172; (with_reducible refine (symAt_s (i := j) (Ty.up _ bj1 gG) ho64).mono ?_); rw [HN.out]; rintro e w2 ⟨rfl, os2, d2, rfl⟩)
                    go_ret
                    exact ⟨ret_bool HF.out.symm, hGc.trans gF⟩
              · have HL := Lib.hid hloc
                have HF := Lib.hid (hno (by simp [entS, loc, hloc]))
                clear hno hyes hloc
                go_wp2_with (fail)
                go_region_held3 (fun w' => w'.cell? ⟨g0, 0, none⟩ = some (.slice (some ⟨gi, oi, none⟩) 2 c0) ∧ w'.cell? ⟨g0, 1, none⟩ = some (.slice (some ⟨gb, ob, none⟩) 2 c1) ∧ w'.cell? ⟨g0, 2, none⟩ = some (.slice (some ⟨ge, oe, none⟩) es.length c2) ∧ w'.cell? ⟨ge, oe + k, none⟩ = some (.int .i64 e)) ((repeat' apply And.intro) <;> (first | ((repeat (first | assumption | with_reducible refine gro_keeps ?_ _ _ | with_reducible refine alloc_keeps ?_ _ | with_reducible refine drew_keeps ?_)); done) | (simp [go_sem]; done))) (first
                  | (go_at_call 171; (with_reducible refine (locate2_s (i := i) (j := j) (a := a) (b := b) (es := es) (e := e) (Ty.up _ m0 gG) (Ty.up _ m1 gG) hci hcj HA.out HB.out he64).mono ?_); rw [HL.out]; rintro e w1 ⟨rfl, os1, d1, rfl⟩))
                go_wp2_with (fail)
                go_ret
                exact ⟨ret_bool HF.out.symm, hGc.trans gF⟩
            · obtain rfl : k = es.length := by omega
              have z2' := gro_keeps z2 os d
              have HF := Lib.hid (show spaceOk ⟨[i, j], [a, b], es⟩ = true from by rw [HQ.out, ← hE.out, List.drop_length]; rfl)
              clear hE
              go_wp2_with (fail)
              go_ret
              exact ⟨ret_bool HF.out.symm, hGc.trans gF⟩
end Go.Proofs.YtgodpjnbhmahaaaGreat
