/-
  DECP_I: DecodeProfile of the program.
-/
import Derived.Test.YtcomafmiclkmhaaReader
import Derived.Test.YtcomafmiclkmhaaEncP2
import Derived.Test.YtcomafmiclkmhaaBoxes
import Derived.Test.YtcomafmiclkmhaaBox4
import Derived.Deep.CutRange
import Derived.Deep.RegionLaw
set_option linter.unusedVariables false
set_option linter.unusedSimpArgs false
namespace Go.Proofs.Ytcomafmiclkmhaa
open Go.RowKit
theorem fresh_nilP (w W : World) : Fresh tProfile w W [.slice none 0 0, .slice none 0 0] nilP := by
  have h0 := Has.nil tNode 41 W
  have h1 := Has.nil intT 3 W
  exact ⟨[] ++ [], tProfile_mkO (x := nilP) none 0 [] none 0 [] h0.1 h1.1, by simp, by simp⟩
/-- the walk's state: the reader, the result's box, the profile's box and its two lists, the names -/
structure DSt (w W : World) (g gp : Nat) (s : ByteArray) (a : Nat) (bad : Bool) (ns : List ByteArray) (A0 : Option Addr) (c0 : Nat) (S0 : List Nat) (p : DProfile) (A2 : Option Addr) (c2 : Nat) (S2 : List Nat) (A3 : Option Addr) (c3 : Nat) (S3 : List Nat) : Prop where
  rd : Rd W (g + 1) s (a : Int) bad
  gro : Gro w W
  ret : W.heap[g]? = some (.cells #[.slice none 0 0, .slice none 0 0] 27 (0, 0))
  box : W.heap[gp]? = some (.cells #[.slice A2 p.Stacks.Nodes.length c2, .slice A3 p.Counts.length c3] 27 (0, 0))
  names : Has (strT.sl 9) W [.slice A0 ns.length c0] ns S0
  nodes : Has (tNode.sl 41) W [.slice A2 p.Stacks.Nodes.length c2] p.Stacks.Nodes S2
  counts : Has (intT.sl 3) W [.slice A3 p.Counts.length c3] p.Counts S3
  l0 : ∀ b ∈ S0, g + 1 < b ∧ b < gp
  l2 : ∀ b ∈ S2, gp < b
  l3 : ∀ b ∈ S3, gp < b
  d23 : ∀ b ∈ S2, b ∉ S3
  lt : g + 1 < gp
  wg : w.heap.size ≤ g
theorem DSt.to {w W W' : World} {g gp : Nat} {s : ByteArray} {a a' : Nat} {bad bad' : Bool} {ns : List ByteArray} {A0 : Option Addr} {c0 : Nat} {S0 : List Nat} {p : DProfile} {A2 : Option Addr} {c2 : Nat} {S2 : List Nat} {A3 : Option Addr} {c3 : Nat} {S3 L : List Nat} (h : DSt w W g gp s a bad ns A0 c0 S0 p A2 c2 S2 A3 c3 S3) (ho : OnlyS L W W') (hr : Rd W' (g + 1) s (a' : Int) bad')
    (hL : ∀ k ∈ L, k ≠ g ∧ k ≠ gp ∧ k ∉ S0 ∧ k ∉ S2 ∧ k ∉ S3 ∧ w.heap.size ≤ k) : DSt w W' g gp s a' bad' ns A0 c0 S0 p A2 c2 S2 A3 c3 S3 :=
  ⟨hr, ho.gro h.gro (fun k hk => (hL k hk).2.2.2.2.2), (ho.block g (Array.getElem?_eq_some_iff.1 h.ret).1 (fun hm => (hL g hm).1 rfl)).trans h.ret, (ho.block gp (Array.getElem?_eq_some_iff.1 h.box).1 (fun hm => (hL gp hm).2.1 rfl)).trans h.box,
    h.names.keep ho (fun b hb hm => (hL b hm).2.2.1 hb), h.nodes.keep ho (fun b hb hm => (hL b hm).2.2.2.1 hb), h.counts.keep ho (fun b hb hm => (hL b hm).2.2.2.2.1 hb), h.l0, h.l2, h.l3, h.d23, h.lt, h.wg⟩
theorem DSt.num {w W W' : World} {g gp : Nat} {s : ByteArray} {a a' : Nat} {bad bad' : Bool} {ns : List ByteArray} {A0 : Option Addr} {c0 : Nat} {S0 : List Nat} {p : DProfile} {A2 : Option Addr} {c2 : Nat} {S2 : List Nat} {A3 : Option Addr} {c3 : Nat} {S3 : List Nat} (h : DSt w W g gp s a bad ns A0 c0 S0 p A2 c2 S2 A3 c3 S3) (ho : OnlyS [g + 1] W W') (hr : Rd W' (g + 1) s (a' : Int) bad') : DSt w W' g gp s a' bad' ns A0 c0 S0 p A2 c2 S2 A3 c3 S3 :=
  h.to ho hr (fun k hk => by
    rw [List.mem_singleton] at hk
    subst hk
    have h1 := h.lt
    have h2 := h.wg
    exact ⟨by omega, by omega, fun hm => by have := h.l0 _ hm; omega, fun hm => by have := h.l2 _ hm; omega, fun hm => by have := h.l3 _ hm; omega, by omega⟩)
theorem DSt.more {w W W' : World} {g gp : Nat} {s : ByteArray} {a : Nat} {bad : Bool} {ns : List ByteArray} {A0 : Option Addr} {c0 : Nat} {S0 : List Nat} {p : DProfile} {A2 : Option Addr} {c2 : Nat} {S2 : List Nat} {A3 : Option Addr} {c3 : Nat} {S3 : List Nat} (h : DSt w W g gp s a bad ns A0 c0 S0 p A2 c2 S2 A3 c3 S3) (hg : Gro W W') : DSt w W' g gp s a bad ns A0 c0 S0 p A2 c2 S2 A3 c3 S3 :=
  h.to (hg.only []) (h.rd.gro hg) (by simp)
/-- a node more -/
theorem DSt.push1 {w W W1 W4 : World} {g gp : Nat} {s : ByteArray} {a : Nat} {bad : Bool} {ns : List ByteArray} {A0 : Option Addr} {c0 : Nat} {S0 : List Nat} {p : DProfile} {A2 : Option Addr} {c2 : Nat} {S2 : List Nat} {A3 : Option Addr} {c3 : Nat} {S3 : List Nat} (h : DSt w W g gp s a bad ns A0 c0 S0 p A2 c2 S2 A3 c3 S3) (hg : Gro W W1) (hon : OnlyS S2 W1 W4) {A7 : Option Addr} {c7 : Nat} {S7 : List Nat} {x : DNode}
    (hH : Has (tNode.sl 41) W4 [.slice A7 (p.Stacks.Nodes.length + 1) c7] (p.Stacks.Nodes ++ [x]) S7) (hS : ∀ b ∈ S7, b ∈ S2 ∨ W1.heap.size ≤ b) : DSt w (W4.setCell ⟨gp, 0, none⟩ (.slice A7 (p.Stacks.Nodes.length + 1) c7)) g gp s a bad ns A0 c0 S0 ⟨⟨p.Stacks.Nodes ++ [x]⟩, p.Counts⟩ A7 c7 S7 A3 c3 S3 := by
  have h1 := h.more hg
  have hlt := h1.lt
  have hwg := h1.wg
  have hb1 := (Array.getElem?_eq_some_iff.1 h1.box).1
  have hgp : gp ∉ S2 := fun hm => by have := h1.l2 _ hm; omega
  have hg1 : g ∉ S2 := fun hm => by have := h1.l2 _ hm; omega
  have hk1 : g + 1 ∉ S2 := fun hm => by have := h1.l2 _ hm; omega
  have hl3 := h1.counts.lt
  have ho : OnlyS [gp] W4 (W4.setCell ⟨gp, 0, none⟩ (.slice A7 (p.Stacks.Nodes.length + 1) c7)) := (OnlyS.refl _ _).setCell (p := ⟨gp, 0, none⟩) (by simp) _
  have hb4 := (hon.block gp hb1 hgp).trans h1.box
  have h7 : ∀ b ∈ S7, gp < b := fun b hb => by
    rcases hS b hb with h | h
    · exact h1.l2 b h
    · omega
  refine ⟨(h1.rd.keep hon hk1).keep ho (by simp; omega), ho.gro (hon.gro h1.gro (fun b hb => by have := h1.l2 b hb; omega)) (fun b hb => by simp at hb; omega), ?_, by rw [List.length_append]; exact heap_setCell_at hb4 0 _, ?_, by rw [List.length_append]; exact hH.keep ho (fun b hb hm => by have := h7 b hb; simp at hm; omega), ?_, h1.l0, h7, h1.l3, fun b hb hm => ?_, hlt, hwg⟩
  · exact (ho.block g (Nat.lt_of_lt_of_le (Array.getElem?_eq_some_iff.1 h1.ret).1 hon.size) (by simp; omega)).trans ((hon.block g (Array.getElem?_eq_some_iff.1 h1.ret).1 hg1).trans h1.ret)
  · exact (h1.names.keep hon (fun b hb hm => by have := h1.l0 b hb; have := h1.l2 b hm; omega)).keep ho (fun b hb hm => by have := h1.l0 b hb; simp at hm; omega)
  · exact (h1.counts.keep hon (fun b hb hm => h1.d23 b hm hb)).keep ho (fun b hb hm => by have := h1.l3 b hb; simp at hm; omega)
  · rcases hS b hb with h | h
    · exact h1.d23 b h hm
    · have := hl3 b hm; omega
/-- a count more -/
theorem DSt.push2 {w W W1 W4 : World} {g gp : Nat} {s : ByteArray} {a : Nat} {bad : Bool} {ns : List ByteArray} {A0 : Option Addr} {c0 : Nat} {S0 : List Nat} {p : DProfile} {A2 : Option Addr} {c2 : Nat} {S2 : List Nat} {A3 : Option Addr} {c3 : Nat} {S3 : List Nat} (h : DSt w W g gp s a bad ns A0 c0 S0 p A2 c2 S2 A3 c3 S3) (hg : Gro W W1) (hon : OnlyS S3 W1 W4) {A7 : Option Addr} {c7 : Nat} {S7 : List Nat} {x : Int}
    (hH : Has (intT.sl 3) W4 [.slice A7 (p.Counts.length + 1) c7] (p.Counts ++ [x]) S7) (hS : ∀ b ∈ S7, b ∈ S3 ∨ W1.heap.size ≤ b) : DSt w (W4.setCell ⟨gp, 1, none⟩ (.slice A7 (p.Counts.length + 1) c7)) g gp s a bad ns A0 c0 S0 ⟨p.Stacks, p.Counts ++ [x]⟩ A2 c2 S2 A7 c7 S7 := by
  have h1 := h.more hg
  have hlt := h1.lt
  have hwg := h1.wg
  have hb1 := (Array.getElem?_eq_some_iff.1 h1.box).1
  have hgp : gp ∉ S3 := fun hm => by have := h1.l3 _ hm; omega
  have hg1 : g ∉ S3 := fun hm => by have := h1.l3 _ hm; omega
  have hk1 : g + 1 ∉ S3 := fun hm => by have := h1.l3 _ hm; omega
  have hl2 := h1.nodes.lt
  have ho : OnlyS [gp] W4 (W4.setCell ⟨gp, 1, none⟩ (.slice A7 (p.Counts.length + 1) c7)) := (OnlyS.refl _ _).setCell (p := ⟨gp, 1, none⟩) (by simp) _
  have hb4 := (hon.block gp hb1 hgp).trans h1.box
  have h7 : ∀ b ∈ S7, gp < b := fun b hb => by
    rcases hS b hb with h | h
    · exact h1.l3 b h
    · omega
  refine ⟨(h1.rd.keep hon hk1).keep ho (by simp; omega), ho.gro (hon.gro h1.gro (fun b hb => by have := h1.l3 b hb; omega)) (fun b hb => by simp at hb; omega), ?_, by rw [List.length_append]; exact heap_setCell_at hb4 1 _, ?_, ?_, by rw [List.length_append]; exact hH.keep ho (fun b hb hm => by have := h7 b hb; simp at hm; omega), h1.l0, h1.l2, h7, fun b hb hm => ?_, hlt, hwg⟩
  · exact (ho.block g (Nat.lt_of_lt_of_le (Array.getElem?_eq_some_iff.1 h1.ret).1 hon.size) (by simp; omega)).trans ((hon.block g (Array.getElem?_eq_some_iff.1 h1.ret).1 hg1).trans h1.ret)
  · exact (h1.names.keep hon (fun b hb hm => by have := h1.l0 b hb; have := h1.l3 b hm; omega)).keep ho (fun b hb hm => by have := h1.l0 b hb; simp at hm; omega)
  · exact (h1.nodes.keep hon (fun b hb hm => h1.d23 b hb hm)).keep ho (fun b hb hm => by have := h1.l2 b hb; simp at hm; omega)
  · rcases hS b hm with h | h
    · exact h1.d23 b hb h
    · have := hl2 b hb; omega
set_option maxRecDepth 100000 in
set_option maxHeartbeats 8000000 in
theorem decP_i (s : ByteArray) (w : World) (hs : s.size ≤ 1099511600000) : Calls Try.prog 5 #[.string s] w (RetProfileBool (decP s) w) := by
  have hs0 : s.size ≤ 1099511620000 := by omega
  obtain ⟨n0, z0, ok0, hd0⟩ : ∃ n z ok, decV s (0 : Nat) = (n, z, ok) := ⟨_, _, _, rfl⟩
  have hz0 : z0 ≤ s.size := by
    cases ok0 with
    | true => have := (decV_bd hd0).2.2.2.1; omega
    | false => rw [(decV_zero hd0).2]; omega
  have hn0b : n0 ≤ 1099511627775 := by
    cases ok0 with
    | true => exact (decV_bd hd0).2.2.2.2
    | false => rw [(decV_zero hd0).1]; omega
  have hn0 : ok0 = false → n0 = 0 := fun h => by subst h; exact (decV_zero hd0).1
  have HD0 := Lib.hid hd0
  have HN0 := Lib.hid hn0
  clear hd0 hn0
  go_enter Try.func5, Try.ntmps5
  go_wp2_with (fail)
  have hY : Gro w (((w.alloc (.cells #[.slice none 0 0, .slice none 0 0] 27)).alloc (.cells #[.string s, .int .i64 0, .bool false] 45)).alloc (.cells #[] 9)) := (by repeat (first | with_reducible exact Gro.refl _ | with_reducible exact Gro.refl_drew _ _ _ | with_reducible exact Gro.refl_drewN _ _ _ _ | assumption | with_reducible apply Gro.more | with_reducible apply Gro.alloc | with_reducible apply Gro.drew | with_reducible apply Gro.drewN))
  have er : (((w.alloc (.cells #[.slice none 0 0, .slice none 0 0] 27)).alloc (.cells #[.string s, .int .i64 0, .bool false] 45)).alloc (.cells #[] 9)).heap[w.heap.size]? = some (.cells #[.slice none 0 0, .slice none 0 0] 27 (0, 0)) := grow_blk (heap_alloc_new w _) (by (repeat (first | with_reducible exact Gro.refl _ | with_reducible exact Gro.refl_drew _ _ _ | with_reducible exact Gro.refl_drewN _ _ _ _ | assumption | with_reducible apply Gro.more | with_reducible apply Gro.alloc | with_reducible apply Gro.drew | with_reducible apply Gro.drewN)); done)
  have hrd0 : Rd (((w.alloc (.cells #[.slice none 0 0, .slice none 0 0] 27)).alloc (.cells #[.string s, .int .i64 0, .bool false] 45)).alloc (.cells #[] 9)) (w.heap.size + 1) s ((0 : Nat) : Int) false := ⟨grow_blk (show ((w.alloc (.cells #[.slice none 0 0, .slice none 0 0] 27)).alloc (.cells #[.string s, .int .i64 0, .bool false] 45)).heap[w.heap.size + 1]? = _ from by have h := heap_alloc_new (w.alloc (.cells #[.slice none 0 0, .slice none 0 0] 27)) (.cells #[.string s, .int .i64 0, .bool false] 45); rw [World.size_alloc] at h; exact h) (by (repeat (first | with_reducible exact Gro.refl _ | with_reducible exact Gro.refl_drew _ _ _ | with_reducible exact Gro.refl_drewN _ _ _ _ | assumption | with_reducible apply Gro.more | with_reducible apply Gro.alloc | with_reducible apply Gro.drew | with_reducible apply Gro.drewN)); done)⟩
  have en : (((w.alloc (.cells #[.slice none 0 0, .slice none 0 0] 27)).alloc (.cells #[.string s, .int .i64 0, .bool false] 45)).alloc (.cells #[] 9)).heap[w.heap.size + 1 + 1]? = some (.cells #[] 9 (0, 0)) := by have h := heap_alloc_new ((w.alloc (.cells #[.slice none 0 0, .slice none 0 0] 27)).alloc (.cells #[.string s, .int .i64 0, .bool false] 45)) (.cells #[] 9); rw [World.size_alloc, World.size_alloc] at h; exact h
  obtain ⟨g, hg⟩ : ∃ g, w.heap.size = g := ⟨_, rfl⟩
  rw [hg] at er hrd0 en ⊢
  generalize (((w.alloc (.cells #[.slice none 0 0, .slice none 0 0] 27)).alloc (.cells #[.string s, .int .i64 0, .bool false] 45)).alloc (.cells #[] 9)) = Y at hY er hrd0 en ⊢
  have hgY : g + 2 < Y.heap.size := (Array.getElem?_eq_some_iff.1 en).1
  refine (number_rd hrd0 hs0 (by omega)).mono ?_
  rw [HD0.out]
  rintro e W1 ⟨rfl, hrd1, hO1⟩
  have hrd1' : Rd W1 (g + 1) s (z0 : Int) (!ok0) := by simpa using hrd1
  have hH1 : Has (strT.sl 9) W1 [.slice (some ⟨g + 1 + 1, 0, none⟩) 0 0] [] [g + 1 + 1] := (Has.emp strT en).keep hO1 (fun b hb hm => by simp at hb hm; omega)
  have er1 := (hO1.block g (by omega) (by simp)).trans er
  have hG1 : Gro w W1 := hO1.gro hY (fun b hb => by simp at hb; omega)
  clear hrd1 hrd0 en er hY hO1 hgY
  go_wp2_with (fail)
  go_loopw [5, 6] (fun a b wr => ∃ (j at_ : Nat) (bad : Bool) (ns : List ByteArray) (A0 : Option Addr) (c0 : Nat) (S0 : List Nat), a = .slice A0 ns.length c0 ∧ b = .int .i64 j ∧ j ≤ 1099511627775 ∧ at_ ≤ s.size ∧ ns.length ≤ at_ + 1 ∧ (bad = false → ns.length ≤ at_) ∧ Hid (bad = false → ok0 = true ∧ rdNames s j at_ ns = rdNames s n0 z0 []) ∧ Hid (bad = true → rawP s = none) ∧ Rd wr (g + 1) s (at_ : Int) bad ∧ Gro w wr ∧ Hid (wr.heap[g]? = some (.cells #[.slice none 0 0, .slice none 0 0] 27 (0, 0))) ∧ Has (strT.sl 9) wr [.slice A0 ns.length c0] ns S0 ∧ Hid (∀ b ∈ S0, g + 1 < b)) (fun _ b _ => (intOf b).toNat)
  case atStart => exact ⟨n0, z0, !ok0, [], _, 0, [g + 1 + 1], rfl, rfl, hn0b, hz0, by simp, by simp, Lib.hid (fun h => ⟨by simpa using h, rfl⟩), Lib.hid (fun h => by
    have h0 : ok0 = false := by simpa using h
    have h1 := HD0.out
    rw [h0] at h1
    exact rawP_0 h1), hrd1', hG1, Lib.hid er1, hH1, Lib.hid (by simp)⟩
  case round =>
    clear hrd1' hH1 er1 hG1
    obtain ⟨j, at_, bad, ns, A0, c0, S0, rfl, rfl, hjb, hat, hnl, hnl2, hok, hbad, hrd, hG, hret, hH, hl0⟩ := hrel
    obtain ⟨q0, q1, q2, qf⟩ := hrd.cells
    have hkl := hrd.lt
    clear qf
    go_upto_region 4 with fail
    go_cut [25] from 17 to 26 (fun b wx => b = .bool (decide (0 < j) && !bad) ∧ wx = wr)
    case first =>
      by_cases hj : 0 < j
      · have hj2 : (0 : Int) < (j : Int) := by omega
        have hj3 : decide ((0 : Int) < (j : Int)) = true := decide_eq_true hj2
        go_wp2_with fail
        go_meet
        exact ⟨by rw [decide_eq_true hj]; simp, rfl⟩
      · have hj2 : ¬ (0 : Int) < (j : Int) := by omega
        have hj3 : decide ((0 : Int) < (j : Int)) = false := decide_eq_false hj2
        go_wp2_with fail
        go_meet
        exact ⟨by rw [decide_eq_false hj]; simp, rfl⟩
    case rest =>
      obtain ⟨rfl, rfl⟩ := hcut
      cases hgo : (decide (0 < j) && !bad)
      · have hj0 : bad = false → j = 0 := fun h => by
          subst h
          simp at hgo
          omega
        have hnm : Hid (bad = false → ok0 = true ∧ rdNames s n0 z0 [] = some (ns, at_)) := Lib.hid (fun h => by
          obtain ⟨h1, h2⟩ := hok.out h
          have h3 := hj0 h
          subst h3
          exact ⟨h1, by rw [← h2]; rfl⟩)
        obtain ⟨n2, z2, ok2, hd2⟩ : ∃ n z ok, decV s (at_ : Int) = (n, z, ok) := ⟨_, _, _, rfl⟩
        have hz2 : at_ + z2 ≤ s.size := by
          cases ok2 with
          | true => have := (decV_bd hd2).2.2.2.1; omega
          | false => rw [(decV_zero hd2).2]; omega
        have hn2b : n2 ≤ 1099511627775 := by
          cases ok2 with
          | true => exact (decV_bd hd2).2.2.2.2
          | false => rw [(decV_zero hd2).1]; omega
        have HB2 := Lib.hid (show (bad || !ok2) = true → rawP s = none from fun h => by
          cases bad with
          | true => exact hbad.out rfl
          | false =>
            obtain ⟨h1, h2⟩ := hnm.out rfl
            have h3 := HD0.out
            rw [h1] at h3
            have h4 : ok2 = false := by simpa using h
            subst h4
            exact rawP_2 h3 h2 hd2)
        have HN2 := Lib.hid (show (bad || !ok2) = false → rdNodes s ns n2 (at_ + z2) nilP = rawP s from fun h => by
          simp only [Bool.or_eq_false_iff, Bool.not_eq_false'] at h
          obtain ⟨rfl, rfl⟩ := h
          obtain ⟨h1, h2⟩ := hnm.out rfl
          have h3 := HD0.out
          rw [h1] at h3
          exact (rawP_ok h3 h2 hd2).symm)
        have HD2 := Lib.hid hd2
        clear hd2 hok hbad hnl2 hj0 hnm hgo q0 q1 q2 hjb
        go_wp2_with (fail)
        have hgl := (Array.getElem?_eq_some_iff.1 hret.out).1
        have hGV : Gro wc (wc.alloc (.cells #[.slice none 0 0, .slice none 0 0] 27)) := (by repeat (first | with_reducible exact Gro.refl _ | with_reducible exact Gro.refl_drew _ _ _ | with_reducible exact Gro.refl_drewN _ _ _ _ | assumption | with_reducible apply Gro.more | with_reducible apply Gro.alloc | with_reducible apply Gro.drew | with_reducible apply Gro.drewN))
        have egp := heap_alloc_new wc (.cells #[.slice none 0 0, .slice none 0 0] 27)
        have hrdV := hrd.gro hGV
        have hretV := grow_blk hret.out hGV
        have hHV := hH.gro hGV
        have hGwV := hG.trans hGV
        have hS0l := hH.lt
        obtain ⟨gp, hgp⟩ : ∃ gp, wc.heap.size = gp := ⟨_, rfl⟩
        have hgpl : gp < (wc.alloc (.cells #[.slice none 0 0, .slice none 0 0] 27)).heap.size := by rw [World.size_alloc, hgp]; omega
        have hggp : g + 1 < gp := by rw [← hgp]; exact hkl
        rw [hgp] at egp hS0l ⊢
        generalize (wc.alloc (.cells #[.slice none 0 0, .slice none 0 0] 27)) = V at egp hrdV hretV hHV hGwV hgpl ⊢
        clear hG hret hrd hH hkl hgl hGV
        refine (number_rd hrdV hs0 hat).mono ?_
        rw [HD2.out]
        rintro e W4 ⟨rfl, hrd4, hO4⟩
        have hr4 := (hO4.block g (by omega) (by simp)).trans hretV
        have eg4 := (hO4.block gp hgpl (by simp; omega)).trans egp
        have hH4 := hHV.keep hO4 (fun b hb hm => by have := hl0.out b hb; simp at hm; omega)
        have hG4 : Gro w W4 := hO4.gro hGwV (fun b hb => by simp at hb; omega)
        clear hrdV hretV hHV hGwV hO4 egp
        go_wp2_with (fail)
        go_loopw [8] (fun a wr => ∃ (j at_ : Nat) (bad : Bool) (p : DProfile) (A2 : Option Addr) (c2 : Nat) (A3 : Option Addr) (c3 : Nat) (S2 S3 : List Nat), a = .int .i64 j ∧ j ≤ 1099511627775 ∧ at_ ≤ s.size ∧ p.Stacks.Nodes.length ≤ at_ + 1 ∧ p.Counts.length ≤ at_ + 1 ∧ (bad = false → p.Stacks.Nodes.length ≤ at_ ∧ p.Counts.length ≤ at_) ∧ Hid (bad = false → rdNodes s ns j at_ p = rawP s) ∧ Hid (bad = true → rawP s = none) ∧ Rd wr (g + 1) s (at_ : Int) bad ∧ Gro w wr ∧ Hid (wr.heap[g]? = some (.cells #[.slice none 0 0, .slice none 0 0] 27 (0, 0))) ∧ Hid (wr.heap[gp]? = some (.cells #[.slice A2 p.Stacks.Nodes.length c2, .slice A3 p.Counts.length c3] 27 (0, 0))) ∧ Has (strT.sl 9) wr [.slice A0 ns.length c0] ns S0 ∧ Has (tNode.sl 41) wr [.slice A2 p.Stacks.Nodes.length c2] p.Stacks.Nodes S2 ∧ Has (intT.sl 3) wr [.slice A3 p.Counts.length c3] p.Counts S3 ∧ Hid (∀ b ∈ S2, gp < b) ∧ Hid (∀ b ∈ S3, gp < b) ∧ Hid (∀ b ∈ S2, b ∉ S3)) (fun a _ => (intOf a).toNat)
        case atStart => exact ⟨n2, at_ + z2, bad || !ok2, nilP, none, 0, none, 0, [], [], rfl, hn2b, hz2, Nat.zero_le _, Nat.zero_le _, fun _ => ⟨Nat.zero_le _, Nat.zero_le _⟩, HN2, HB2, hrd4, hG4, Lib.hid hr4, Lib.hid eg4, hH4, Has.nil _ _ _, Has.nil _ _ _, Lib.hid (by simp), Lib.hid (by simp), Lib.hid (by simp)⟩
        case round =>
          clear hrd4 hG4 hr4 eg4 hH4 HN2 HB2 HD2 hnl hat hz2
          obtain ⟨j, at_, bad, p, A2, c2, A3, c3, S2, S3, rfl, hjb, hat, hpn, hpc, hpl, hok, hbad, hrd, hG, hret, hbx, hH, hHn, hHc, hl2, hl3, hd23⟩ := hrel
          obtain ⟨q0, q1, q2, qf⟩ := hrd.cells
          have hkl := hrd.lt
          have hbl := (Array.getElem?_eq_some_iff.1 hbx.out).1
          obtain ⟨y0, y1, yf0, yf1, _⟩ := box2 hbx.out
          clear qf
          go_upto_region 9 with fail
          go_cut [44] from 36 to 45 (fun b wx => b = .bool (decide (0 < j) && !bad) ∧ wx = wr)
          case first =>
            by_cases hj : 0 < j
            · have hj2 : (0 : Int) < (j : Int) := by omega
              have hj3 : decide ((0 : Int) < (j : Int)) = true := decide_eq_true hj2
              go_wp2_with fail
              go_meet
              exact ⟨by rw [decide_eq_true hj]; simp, rfl⟩
            · have hj2 : ¬ (0 : Int) < (j : Int) := by omega
              have hj3 : decide ((0 : Int) < (j : Int)) = false := decide_eq_false hj2
              go_wp2_with fail
              go_meet
              exact ⟨by rw [decide_eq_false hj]; simp, rfl⟩
          case rest =>
            obtain ⟨rfl, rfl⟩ := hcut
            cases hgo : (decide (0 < j) && !bad)
            · obtain ⟨r0, r1, rf0, rf1, rl⟩ := box2 hret.out
              have hgpw : w.heap.size ≤ gp := by omega
              cases bad
              · have hj0 : j = 0 := by simp at hgo; omega
                subst hj0
                have hraw : rawP s = some p := (hok.out rfl).symm
                have hps := hpl rfl
                by_cases he : encP p = s
                · have HR := Lib.hid (decP_eq hraw he)
                  have HE := Lib.hid he
                  have heb : (s.toList != s.toList) = false := by rw [bne, str_eqb, decide_eq_true rfl]; rfl
                  clear he hraw
                  go_wp2_with (go_at_call 14; (with_reducible refine (encP_i (p := p) (Ty.up _ hHn.read (by repeat (first | with_reducible exact Gro.refl _ | with_reducible exact Gro.refl_drew _ _ _ | with_reducible exact Gro.refl_drewN _ _ _ _ | assumption | with_reducible apply Gro.more | with_reducible apply Gro.alloc | with_reducible apply Gro.drew | with_reducible apply Gro.drewN))) (Ty.up _ hHc.read (by repeat (first | with_reducible exact Gro.refl _ | with_reducible exact Gro.refl_drew _ _ _ | with_reducible exact Gro.refl_drewN _ _ _ _ | assumption | with_reducible apply Gro.more | with_reducible apply Gro.alloc | with_reducible apply Gro.drew | with_reducible apply Gro.drewN))) (by omega)).mono ?_); rw [HE.out]; rintro e w9 ⟨rfl, os9, d9, rfl⟩)
                  have h2 := set2 hret.out (.slice A2 p.Stacks.Nodes.length c2) (.slice A3 p.Counts.length c3)
                  have hz := box2 h2.1
                  have kn := (hHn.keep h2.2 (fun b hb hm => by have := hl2.out b hb; simp at hm; omega)).gro (Gro.of _ os9 d9)
                  have kc := (hHc.keep h2.2 (fun b hb hm => by have := hl3.out b hb; simp at hm; omega)).gro (Gro.of _ os9 d9)
                  refine bodyPost_ret (v := .tuple #[.agg #[.slice A2 p.Stacks.Nodes.length c2, .slice A3 p.Counts.length c3], .bool true]) (by simp [results, Try.results5, go_sem, hz, rl]) rfl (ret_profile_bool HR.out ?_ ((h2.2.gro hG (fun b hb => by simp at hb; omega)).trans (by (repeat (first | with_reducible exact Gro.refl _ | with_reducible exact Gro.refl_drew _ _ _ | with_reducible exact Gro.refl_drewN _ _ _ _ | assumption | with_reducible apply Gro.more | with_reducible apply Gro.alloc | with_reducible apply Gro.drew | with_reducible apply Gro.drewN)); done)))
                  refine ⟨S2 ++ S3, tProfile_mkO A2 c2 S2 A3 c3 S3 kn.1 kc.1, List.nodup_append.2 ⟨kn.2, kc.2, fun a ha b hb he => hd23.out a ha (he ▸ hb)⟩, fun b hb => ?_⟩
                  rcases List.mem_append.1 hb with h | h
                  · have := hl2.out b h; omega
                  · have := hl3.out b h; omega
                · have HR := Lib.hid (decP_ne hraw he)
                  obtain ⟨E, hE⟩ : ∃ E, encP p = E := ⟨_, rfl⟩
                  have HE := Lib.hid hE
                  rw [hE] at he
                  have heb : (E.toList == s.toList) = false := by rw [str_eqb, decide_eq_false he]
                  clear he hraw hE
                  go_wp2_with (go_at_call 14; (with_reducible refine (encP_i (p := p) (Ty.up _ hHn.read (by repeat (first | with_reducible exact Gro.refl _ | with_reducible exact Gro.refl_drew _ _ _ | with_reducible exact Gro.refl_drewN _ _ _ _ | assumption | with_reducible apply Gro.more | with_reducible apply Gro.alloc | with_reducible apply Gro.drew | with_reducible apply Gro.drewN))) (Ty.up _ hHc.read (by repeat (first | with_reducible exact Gro.refl _ | with_reducible exact Gro.refl_drew _ _ _ | with_reducible exact Gro.refl_drewN _ _ _ _ | assumption | with_reducible apply Gro.more | with_reducible apply Gro.alloc | with_reducible apply Gro.drew | with_reducible apply Gro.drewN))) (by omega)).mono ?_); rw [HE.out]; rintro e w9 ⟨rfl, os9, d9, rfl⟩)
                  have h2 := set2 hret.out (.slice none 0 0) (.slice none 0 0)
                  have hz := box2 h2.1
                  exact bodyPost_ret (v := .tuple #[.agg #[.slice none 0 0, .slice none 0 0], .bool false]) (by simp [results, Try.results5, go_sem, hz, rl]) rfl (ret_profile_bool HR.out (fresh_nilP _ _) ((h2.2.gro hG (fun b hb => by simp at hb; omega)).trans (by (repeat (first | with_reducible exact Gro.refl _ | with_reducible exact Gro.refl_drew _ _ _ | with_reducible exact Gro.refl_drewN _ _ _ _ | assumption | with_reducible apply Gro.more | with_reducible apply Gro.alloc | with_reducible apply Gro.drew | with_reducible apply Gro.drewN)); done)))
              · have HR := Lib.hid (decP_none (hbad.out rfl))
                go_wp2_with (fail)
                have h2 := set2 hret.out (.slice none 0 0) (.slice none 0 0)
                have hz := box2 h2.1
                exact bodyPost_ret (v := .tuple #[.agg #[.slice none 0 0, .slice none 0 0], .bool false]) (by simp [results, Try.results5, go_sem, hz, rl]) rfl (ret_profile_bool HR.out (fresh_nilP _ _) (h2.2.gro hG (fun b hb => by simp at hb; omega)))
            · simp only [Bool.and_eq_true, decide_eq_true_eq, Bool.not_eq_true'] at hgo
              obtain ⟨hj, rfl⟩ := hgo
              obtain ⟨i, rfl⟩ : ∃ i, j = i + 1 := ⟨j - 1, by omega⟩
              obtain ⟨n1, z1, k1, u1⟩ : ∃ n z k, decV s (at_ : Int) = (n, z, k) := ⟨_, _, _, rfl⟩
              obtain ⟨n2, z2, k2, u2⟩ : ∃ n z k, decV s ((at_ + z1 : Nat) : Int) = (n, z, k) := ⟨_, _, _, rfl⟩
              obtain ⟨n3, z3, k3, u3⟩ : ∃ n z k, decV s ((at_ + z1 + z2 : Nat) : Int) = (n, z, k) := ⟨_, _, _, rfl⟩
              obtain ⟨n4, z4, k4, u4⟩ : ∃ n z k, decV s ((at_ + z1 + z2 + z3 : Nat) : Int) = (n, z, k) := ⟨_, _, _, rfl⟩
              have zb : ∀ {a : Nat} {n z : Nat} {k : Bool}, decV s (a : Int) = (n, z, k) → a ≤ s.size → a + z ≤ s.size ∧ n ≤ 1099511627775 ∧ (k = true → 1 ≤ z) := by
                intro a n z k h ha
                cases k with
                | true => have := decV_bd h; exact ⟨by omega, this.2.2.2.2, fun _ => this.2.1⟩
                | false => rw [(decV_zero h).1, (decV_zero h).2]; exact ⟨by omega, by omega, fun h => by cases h⟩
              obtain ⟨b1, c1, e1⟩ := zb u1 hat
              obtain ⟨b2, c2', e2⟩ := zb u2 b1
              obtain ⟨b3, c3', e3⟩ := zb u3 b2
              obtain ⟨b4, c4, e4⟩ := zb u4 b3
              have U1 := Lib.hid u1
              have U2 := Lib.hid u2
              have U3 := Lib.hid u3
              have U4 := Lib.hid u4
              have hok' := hok.out rfl
              have HOK := Lib.hid hok'
              have hl' := hpl rfl
              have hw1 : IntKind.i64.wrap ((n1 : Int) - 1) = (n1 : Int) - 1 := IntWalk.i64_in _ ⟨by omega, by omega⟩
              clear u1 u2 u3 u4 hok hok' hbad zb hpl
              have D0 : DSt w wc g gp s at_ false ns A0 c0 S0 p A2 c2 S2 A3 c3 S3 := ⟨hrd, hG, hret.out, hbx.out, hH, hHn, hHc, fun b hb => ⟨hl0.out b hb, hS0l b hb⟩, hl2.out, hl3.out, hd23.out, hggp, by omega⟩
              have hwcs : ∀ b, b ∈ S0 ∨ b ∈ S2 ∨ b ∈ S3 → b < wc.heap.size := fun b hb => by
                rcases hb with h | h | h
                · exact hH.lt b h
                · exact hHn.lt b h
                · exact hHc.lt b h
              clear hrd hG hret hbx hH hHn hHc q0 q1 q2 y0 y1 yf0 yf1
              go_wp2_with (fail)
              refine (number_rd D0.rd hs0 hat).mono ?_
              rw [U1.out]
              rintro e V1 ⟨rfl, hrd1, hO1⟩
              have hz1 := hO1.size
              have D1 := D0.num hO1 (bad' := !k1) (by rwa [Bool.false_or] at hrd1)
              have ex := heap_alloc_new V1 (.cells #[.int .i64 ((n1 : Int) - 1), .string ⟨#[]⟩, .int .i64 0] 41)
              have D1' := D1.more (show Gro V1 (V1.alloc (.cells #[.int .i64 ((n1 : Int) - 1), .string ⟨#[]⟩, .int .i64 0] 41)) from (by repeat (first | with_reducible exact Gro.refl _ | with_reducible exact Gro.refl_drew _ _ _ | with_reducible exact Gro.refl_drewN _ _ _ _ | assumption | with_reducible apply Gro.more | with_reducible apply Gro.alloc | with_reducible apply Gro.drew | with_reducible apply Gro.drewN)))
              go_wp2_with (fail)
              obtain ⟨gx, hgx⟩ : ∃ gx, V1.heap.size = gx := ⟨_, rfl⟩
              have hgw : wc.heap.size ≤ gx := by omega
              have hgxl : gx < (V1.alloc (.cells #[.int .i64 ((n1 : Int) - 1), .string ⟨#[]⟩, .int .i64 0] 41)).heap.size := by rw [World.size_alloc]; omega
              rw [hgx] at ex ⊢
              generalize (V1.alloc (.cells #[.int .i64 ((n1 : Int) - 1), .string ⟨#[]⟩, .int .i64 0] 41)) = X1 at ex D1' hgxl ⊢
              clear hrd1 hO1 D0 D1 hz1 hgx
              refine (number_rd D1'.rd hs0 b1).mono ?_
              rw [U2.out]
              rintro e V2 ⟨rfl, hrd2, hO2⟩
              have hz2 := hO2.size
              have D2 := D1'.num hO2 hrd2
              have ex2 := (hO2.block gx hgxl (by simp; omega)).trans ex
              have hgx2 : gx < V2.heap.size := by omega
              clear hrd2 hO2 D1' ex hgxl
              by_cases hfar : ns.length ≤ n2
              · have HR := Lib.hid (decP_none (s := s) (by
                  rw [← HOK.out]
                  cases k1 with
                  | false => exact rdNodes_bad (rdFour_1 U1.out)
                  | true => cases k2 with
                    | false => exact rdNodes_bad (rdFour_2 U1.out U2.out)
                    | true => exact rdNodes_mid U1.out U2.out hfar))
                have hfi : (ns.length : Int) ≤ (n2 : Int) := by omega
                obtain ⟨r0, r1, rf0, rf1, rl⟩ := box2 D2.ret
                go_wp2_with (fail)
                have h2 := set2 D2.ret (.slice none 0 0) (.slice none 0 0)
                have hz := box2 h2.1
                have hwg := D2.wg
                exact bodyPost_ret (v := .tuple #[.agg #[.slice none 0 0, .slice none 0 0], .bool false]) (by simp [results, Try.results5, go_sem, hz, rl]) rfl (ret_profile_bool HR.out (fresh_nilP _ _) (h2.2.gro D2.gro (fun b hb => by simp at hb; omega)))
              · have hfi : ¬ (ns.length : Int) ≤ (n2 : Int) := by omega
                have hni : (n2 : Int) < (ns.length : Int) := by omega
                obtain ⟨gn, offn, t, hAn, htk, hcn, htz⟩ := strs_at D2.names.read (k := n2) (by omega)
                have hgnS : gn ∈ S0 := by
                  obtain ⟨Ax, cx, ecs, S', q1, q2, q3, q4⟩ := D2.names.1
                  injection q1 with q1 _
                  injection q1 with qA _ _
                  rw [q4, ← qA, hAn]
                  simp [blockOf]
                have hgn0 := D2.l0 gn hgnS
                have hgnl : gn < V2.heap.size := World.block_lt_of_cell? _ _ hcn
                subst hAn
                have HTK := Lib.hid htk
                clear htk
                go_wp2_with (fail)
                go_cut [] from 58 to 66 (fun wx => DSt w wx g gp s (at_ + z1 + z2 + z3) (((!k1) || !k2) || !k3) ns (some ⟨gn, offn, none⟩) c0 S0 p A2 c2 S2 A3 c3 S3 ∧ Hid (wx.heap[gx]? = some (.cells #[.int .i64 ((n1 : Int) - 1), .string t, .int .i64 (n3 : Int)] 41 (0, 0))))
                case first =>
                  go_region_law (first
                    | (go_simp; go_at_call 12; (with_reducible refine (number_rd (D2.more (by (repeat (first | with_reducible exact Gro.refl _ | with_reducible exact Gro.refl_drew _ _ _ | with_reducible exact Gro.refl_drewN _ _ _ _ | assumption | with_reducible apply Gro.more | with_reducible apply Gro.alloc | with_reducible apply Gro.drew | with_reducible apply Gro.drewN)); done)).rd hs0 b2).mono ?_); rw [U3.out]; rintro e V3 ⟨rfl, hrd3, hO3⟩; have D3 := (D2.more (by (repeat (first | with_reducible exact Gro.refl _ | with_reducible exact Gro.refl_drew _ _ _ | with_reducible exact Gro.refl_drewN _ _ _ _ | assumption | with_reducible apply Gro.more | with_reducible apply Gro.alloc | with_reducible apply Gro.drew | with_reducible apply Gro.drewN)); done)).num hO3 hrd3; have ex3 := (hO3.block gx (by simp; omega) (by simp; omega)).trans (grow_blk ex2 (by (repeat (first | with_reducible exact Gro.refl _ | with_reducible exact Gro.refl_drew _ _ _ | with_reducible exact Gro.refl_drewN _ _ _ _ | assumption | with_reducible apply Gro.more | with_reducible apply Gro.alloc | with_reducible apply Gro.drew | with_reducible apply Gro.drewN)); done)); have hcn3 : V3.cell? ⟨gn, offn + n2, none⟩ = some (.string t) := (hO3.cell (by simp; omega) (by simp; omega) _).trans (cell_up (show Gro V2 _ from (by (repeat (first | with_reducible exact Gro.refl _ | with_reducible exact Gro.refl_drew _ _ _ | with_reducible exact Gro.refl_drewN _ _ _ _ | assumption | with_reducible apply Gro.more | with_reducible apply Gro.alloc | with_reducible apply Gro.drew | with_reducible apply Gro.drewN)); done)) hcn); have xf := fun j => (show V3.frozen? ⟨gx, j, none⟩ = false from by simp [World.frozen?, ex3]); have xf1 := xf 1; have xf2 := xf 2; have xc1 : V3.cell? ⟨gx, 1, none⟩ = some (.string ⟨#[]⟩) := (by rw [cell_of_row V3 gx _ _ _ (0, 0) ex3]; rfl); have xc2 : V3.cell? ⟨gx, 2, none⟩ = some (.int .i64 0) := (by rw [cell_of_row V3 gx _ _ _ (0, 0) ex3]; rfl); have hgx3 := (Array.getElem?_eq_some_iff.1 ex3).1; clear xf))
                  all_goals go_wp2_with fail
                  all_goals go_meet
                  all_goals
                    have ho : OnlyS [gx] V3 ((V3.setCell ⟨gx, 1, none⟩ (.string t)).setCell ⟨gx, 2, none⟩ (.int .i64 (n3 : Int))) := ((OnlyS.refl _ _).setCell (p := ⟨gx, 1, none⟩) (by simp) _).setCell (p := ⟨gx, 2, none⟩) (by simp) _
                    have hwg := D3.wg
                    exact ⟨D3.to ho (D3.rd.keep ho (by simp; omega)) (fun k hk => by
                      rw [List.mem_singleton] at hk
                      subst hk
                      exact ⟨by omega, by omega, fun hm => by have := hwcs _ (.inl hm); omega, fun hm => by have := hwcs _ (.inr (.inl hm)); omega, fun hm => by have := hwcs _ (.inr (.inr hm)); omega, by omega⟩), Lib.hid (heap_setCell_at (heap_setCell_at ex3 1 _) 2 _)⟩
                case rest =>
                  obtain ⟨D3, ex3⟩ := hcut
                  clear D2 ex2 hcn hgx2
                  obtain ⟨y0, y1, yf0, yf1, yl⟩ := box2 D3.box
                  have ex4 := ex3.out
                  have xc0 : wc.cell? ⟨gx, 0, none⟩ = some (.int .i64 ((n1 : Int) - 1)) := by rw [cell_of_row wc gx _ _ _ (0, 0) ex4]; rfl
                  have xc1 : wc.cell? ⟨gx, 1, none⟩ = some (.string t) := by rw [cell_of_row wc gx _ _ _ (0, 0) ex4]; rfl
                  have xc2 : wc.cell? ⟨gx, 2, none⟩ = some (.int .i64 (n3 : Int)) := by rw [cell_of_row wc gx _ _ _ (0, 0) ex4]; rfl
                  have hgx4 := (Array.getElem?_eq_some_iff.1 ex4).1
                  have hxR : tNode.R w 0 [.int .i64 ((n1 : Int) - 1), .string t, .int .i64 (n3 : Int)] ⟨(n1 : Int) - 1, ⟨t, (n3 : Int)⟩⟩ := tNode_mkR (x := ⟨(n1 : Int) - 1, ⟨t, (n3 : Int)⟩⟩) ⟨by simp only; omega, by simp only; omega⟩ htz ⟨by simp only; omega, by simp only; omega⟩
                  have hgp2 : gp ∉ S2 := fun hm => by have := D3.l2 gp hm; omega
                  clear ex4
                  go_wp2_with (((refine wpList_append_hasf (L := p.Stacks.Nodes.length + 1) (y := (⟨(n1 : Int) - 1, ⟨t, (n3 : Int)⟩⟩ : DNode)) rfl (.tmp 68) (.tmp 70) elNode flatNode (S := S2) (D3.nodes.gro (by (repeat (first | with_reducible exact Gro.refl _ | with_reducible exact Gro.refl_drew _ _ _ | with_reducible exact Gro.refl_drewN _ _ _ _ | assumption | with_reducible apply Gro.more | with_reducible apply Gro.alloc | with_reducible apply Gro.drew | with_reducible apply Gro.drewN)); done)) (ec := [.int .i64 ((n1 : Int) - 1), .string t, .int .i64 (n3 : Int)]) (W1 := w) (B := 0) hxR rfl rfl rfl (by intro j u hu; simpa [go_sem] using hu) rfl (by omega) (by omega) ?_)); intro A7 c7 W7 S7 hon hH7 hS7; have eb7 := (hon.block gp (by simp; omega) hgp2).trans (grow_blk D3.box (by (repeat (first | with_reducible exact Gro.refl _ | with_reducible exact Gro.refl_drew _ _ _ | with_reducible exact Gro.refl_drewN _ _ _ _ | assumption | with_reducible apply Gro.more | with_reducible apply Gro.alloc | with_reducible apply Gro.drew | with_reducible apply Gro.drewN)); done)); obtain ⟨p0, p1, pf0, pf1, pl⟩ := box2 eb7; have D4 := D3.push1 (by (repeat (first | with_reducible exact Gro.refl _ | with_reducible exact Gro.refl_drew _ _ _ | with_reducible exact Gro.refl_drewN _ _ _ _ | assumption | with_reducible apply Gro.more | with_reducible apply Gro.alloc | with_reducible apply Gro.drew | with_reducible apply Gro.drewN)); done) hon hH7 hS7)
                  generalize W7.setCell ⟨gp, 0, none⟩ (.slice A7 (p.Stacks.Nodes.length + 1) c7) = V4 at D4 ⊢
                  clear p0 p1 pf0 pf1 pl eb7 hon hH7 hS7 y0 y1 yf0 yf1 yl xc0 xc1 xc2 hxR D3 ex3
                  obtain ⟨y0, y1, yf0, yf1, yl⟩ := box2 D4.box
                  have hn464 : I64 (n4 : Int) := ⟨by omega, by omega⟩
                  have hgp3 : gp ∉ S3 := fun hm => by have := D4.l3 gp hm; omega
                  go_region_law (first
                    | (go_simp; go_at_call 12; (with_reducible refine (number_rd (D4.more (by (repeat (first | with_reducible exact Gro.refl _ | with_reducible exact Gro.refl_drew _ _ _ | with_reducible exact Gro.refl_drewN _ _ _ _ | assumption | with_reducible apply Gro.more | with_reducible apply Gro.alloc | with_reducible apply Gro.drew | with_reducible apply Gro.drewN)); done)).rd hs0 b3).mono ?_); rw [U4.out]; rintro e V5 ⟨rfl, hrd5, hO5⟩; have D5 := (D4.more (by (repeat (first | with_reducible exact Gro.refl _ | with_reducible exact Gro.refl_drew _ _ _ | with_reducible exact Gro.refl_drewN _ _ _ _ | assumption | with_reducible apply Gro.more | with_reducible apply Gro.alloc | with_reducible apply Gro.drew | with_reducible apply Gro.drewN)); done)).num hO5 hrd5; obtain ⟨v0, v1, vf0, vf1, vl⟩ := box2 D5.box)
                    | (refine step_append_hasf (L := p.Counts.length + 1) (y := (n4 : Int)) rfl (.tmp 75) (.tmp 78) elInt flat_int (S := S3) (D5.counts.gro (by (repeat (first | with_reducible exact Gro.refl _ | with_reducible exact Gro.refl_drew _ _ _ | with_reducible exact Gro.refl_drewN _ _ _ _ | assumption | with_reducible apply Gro.more | with_reducible apply Gro.alloc | with_reducible apply Gro.drew | with_reducible apply Gro.drewN)); done)) (ec := [.int .i64 (n4 : Int)]) (W1 := w) (B := 0) ⟨rfl, hn464.1, hn464.2⟩ rfl rfl rfl (by intro j u hu; simpa [go_sem] using hu) rfl (by omega) (by omega) ?_; intro A8 c8 W8 S8 hon hH8 hS8; have eb8 := (hon.block gp (by simp; omega) hgp3).trans (grow_blk D5.box (by (repeat (first | with_reducible exact Gro.refl _ | with_reducible exact Gro.refl_drew _ _ _ | with_reducible exact Gro.refl_drewN _ _ _ _ | assumption | with_reducible apply Gro.more | with_reducible apply Gro.alloc | with_reducible apply Gro.drew | with_reducible apply Gro.drewN)); done)); obtain ⟨p0, p1, pf0, pf1, pl⟩ := box2 eb8; have D6 := D5.push2 (by (repeat (first | with_reducible exact Gro.refl _ | with_reducible exact Gro.refl_drew _ _ _ | with_reducible exact Gro.refl_drewN _ _ _ _ | assumption | with_reducible apply Gro.more | with_reducible apply Gro.alloc | with_reducible apply Gro.drew | with_reducible apply Gro.drewN)); done) hon hH8 hS8))
                  all_goals
                    have hz4 : ((((!k1) || !k2) || !k3) || !k4) = true → rawP s = none := fun h => by
                      rw [← HOK.out]
                      cases k1 with
                      | false => exact rdNodes_bad (rdFour_1 U1.out)
                      | true => cases k2 with
                        | false => exact rdNodes_bad (rdFour_2 U1.out U2.out)
                        | true => cases k3 with
                          | false => exact rdNodes_bad (rdFour_3 U1.out U2.out U3.out)
                          | true => cases k4 with
                            | false => exact rdNodes_bad (rdFour_4 U1.out U2.out U3.out U4.out)
                            | true => simp at h
                    have hk4 : ((((!k1) || !k2) || !k3) || !k4) = false → k1 = true ∧ k2 = true ∧ k3 = true ∧ k4 = true := fun h => by simpa [and_assoc] using h
                    have HZ4 := Lib.hid hz4
                    have HK4 := Lib.hid hk4
                    have HE := Lib.hid (show (k1 = true → 1 ≤ z1) ∧ (k2 = true → 1 ≤ z2) from ⟨e1, e2⟩)
                    clear hz4 hk4 e1 e2 e3 e4 D4 y0 y1 yf0 yf1 yl
                    go_wp2_with (fail)
                    go_roundw
                    case measure => (simp [intOf]; try omega)
                    case rel =>
                      refine ⟨i, at_ + z1 + z2 + z3 + z4, (((!k1) || !k2) || !k3) || !k4, pushP p ⟨(n1 : Int) - 1, ⟨t, (n3 : Int)⟩⟩ (n4 : Int), A7, c7, A8, c8, S7, S8, by go_num, by omega, b4, ?_, ?_, fun h => ?_, Lib.hid (fun h => ?_), Lib.hid HZ4.out, D6.rd, D6.gro, Lib.hid D6.ret, Lib.hid D6.box, D6.names, D6.nodes, D6.counts, Lib.hid D6.l2, Lib.hid D6.l3, Lib.hid D6.d23⟩
                      · show (p.Stacks.Nodes ++ [_]).length ≤ _
                        rw [List.length_append, List.length_singleton]
                        omega
                      · show (p.Counts ++ [_]).length ≤ _
                        rw [List.length_append, List.length_singleton]
                        omega
                      · obtain ⟨h1, h2, _, _⟩ := HK4.out h
                        have := HE.out.1 h1
                        constructor
                        · show (p.Stacks.Nodes ++ [_]).length ≤ _
                          rw [List.length_append, List.length_singleton]
                          omega
                        · show (p.Counts ++ [_]).length ≤ _
                          rw [List.length_append, List.length_singleton]
                          omega
                      · obtain ⟨rfl, rfl, rfl, rfl⟩ := HK4.out h
                        rw [← HOK.out, rdNodes_ok (rdFour_ok U1.out U2.out U3.out U4.out) HTK.out]
      · simp only [Bool.and_eq_true, decide_eq_true_eq, Bool.not_eq_true'] at hgo
        obtain ⟨hj, rfl⟩ := hgo
        obtain ⟨i, rfl⟩ : ∃ i, j = i + 1 := ⟨j - 1, by omega⟩
        obtain ⟨t, z, ok, hu⟩ : ∃ t z ok, unpT s (at_ : Int) = (t, z, ok) := ⟨_, _, _, rfl⟩
        have htz := unpT_sz s (at_ : Int) hs0
        rw [hu] at htz
        simp only at htz
        have HU := Lib.hid hu
        have hl := hnl2 rfl
        have hok' := hok.out rfl
        have hza : at_ + z ≤ s.size ∧ (ok = true → 1 ≤ z) := by
          cases ok with
          | true => have := unpT_bd hu; exact ⟨this.2.1, fun _ => this.1⟩
          | false => rw [unpT_zero hu]; exact ⟨hat, fun h => by cases h⟩
        have HN := Lib.hid (show ok = true → rdNames s i (at_ + z) (ns ++ [t]) = rdNames s n0 z0 [] from fun h => by subst h; rw [← hok'.2, rdNames_ok hu])
        have HB := Lib.hid (show ok = false → rawP s = none from fun h => by
          subst h
          have h1 := HD0.out
          rw [hok'.1] at h1
          exact rawP_1 h1 (by rw [← hok'.2, rdNames_bad hu]))
        have hok0 := hok'.1
        have HOK0 := Lib.hid hok0
        have hlt0 : ∀ b ∈ S0, b ≠ g + 1 := fun b hb => by have := hl0.out b hb; omega
        clear hu hok hok' hok0 hnl2
        go_wp2_with (first
          | (go_at_call 13; (with_reducible refine (text_rd (hrd.gro (by (repeat (first | with_reducible exact Gro.refl _ | with_reducible exact Gro.refl_drew _ _ _ | with_reducible exact Gro.refl_drewN _ _ _ _ | assumption | with_reducible apply Gro.more | with_reducible apply Gro.alloc | with_reducible apply Gro.drew | with_reducible apply Gro.drewN)); done)) hs0 hat).mono ?_); rw [HU.out]; rintro e W3 ⟨rfl, hrd3, hO3⟩)
          | (refine wpList_append_hasf (L := ns.length + 1) (y := t) rfl (.tmp 28) (.tmp 31) el_str flat_str (S := S0) ((hH.keep hO3 (fun b hb hm => hlt0 b hb (by simpa using hm))).gro (by (repeat (first | with_reducible exact Gro.refl _ | with_reducible exact Gro.refl_drew _ _ _ | with_reducible exact Gro.refl_drewN _ _ _ _ | assumption | with_reducible apply Gro.more | with_reducible apply Gro.alloc | with_reducible apply Gro.drew | with_reducible apply Gro.drewN)); done)) (ec := [.string t]) (W1 := w) (B := 0) ⟨rfl, by omega⟩ rfl rfl rfl (by intro j u hu; simpa [go_sem] using hu) rfl (by omega) (by omega) ?_; intro A7 c7 W7 S7 hon hH7 hS7))
        go_roundw
        case measure => (simp [intOf]; try omega)
        case rel =>
          have hzz := hon.size
          have hz3 := hO3.size
          simp at hzz
          have hk3 := hrd3.lt
          have hrd7 : Rd W7 (g + 1) s ((at_ + z : Nat) : Int) (!ok) := by simpa using (hrd3.gro (show Gro W3 (W3.alloc (.cells #[.string t] 9)) from (by repeat (first | with_reducible exact Gro.refl _ | with_reducible exact Gro.refl_drew _ _ _ | with_reducible exact Gro.refl_drewN _ _ _ _ | assumption | with_reducible apply Gro.more | with_reducible apply Gro.alloc | with_reducible apply Gro.drew | with_reducible apply Gro.drewN)))).keep hon (fun hm => hlt0 _ hm rfl)
          have hG3 : Gro w W3 := hO3.gro hG (fun b hb => by simp at hb; omega)
          have hG7 : Gro w W7 := hon.gro (hG3.trans (by (repeat (first | with_reducible exact Gro.refl _ | with_reducible exact Gro.refl_drew _ _ _ | with_reducible exact Gro.refl_drewN _ _ _ _ | assumption | with_reducible apply Gro.more | with_reducible apply Gro.alloc | with_reducible apply Gro.drew | with_reducible apply Gro.drewN)); done)) (fun b hb => by have := hl0.out b hb; omega)
          have hgl := (Array.getElem?_eq_some_iff.1 hret.out).1
          have hr3 := (hO3.block g hgl (by simp)).trans hret.out
          have hr7 := (hon.block g (by simp; omega) (fun hm => by have := hl0.out g hm; omega)).trans (grow_blk hr3 (by (repeat (first | with_reducible exact Gro.refl _ | with_reducible exact Gro.refl_drew _ _ _ | with_reducible exact Gro.refl_drewN _ _ _ _ | assumption | with_reducible apply Gro.more | with_reducible apply Gro.alloc | with_reducible apply Gro.drew | with_reducible apply Gro.drewN)); done))
          refine ⟨i, at_ + z, !ok, ns ++ [t], A7, c7, S7, by rw [List.length_append]; rfl, by go_num, by omega, hza.1, by rw [List.length_append, List.length_singleton]; omega, fun h => ?_, Lib.hid (fun h => ⟨HOK0.out, HN.out (by simpa using h)⟩), Lib.hid (fun h => HB.out (by simpa using h)), hrd7, hG7, Lib.hid hr7, by rw [List.length_append]; exact hH7, Lib.hid (fun b hb => ?_)⟩
          · have := hza.2 (by simpa using h)
            rw [List.length_append, List.length_singleton]
            omega
          · rcases hS7 b hb with h | h
            · exact hl0.out b h
            · simp at h; omega
end Go.Proofs.Ytcomafmiclkmhaa
