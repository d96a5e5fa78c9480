/-
  LOCATE: where an address lies: the contracts of both sides.
-/
import Derived.Test.YtbhobjepjaeffaaSpace
set_option linter.unusedVariables false
set_option linter.unusedSimpArgs false
namespace Go.Proofs.Ytbhobjepjaeffaa
open Go.RowKit
theorem locGo_at {imgs : List DImage} {bases : List Int} {k : Nat} {x : DImage} {b : Int} (hx : imgs[k]? = some x) (hb : bases[k]? = some b) (e : Int) : locGo (imgs.drop k) (bases.drop k) e k = if b ≤ e ∧ e < b + x.Code.size then ((k : Int), e - b) else locGo (imgs.drop (k + 1)) (bases.drop (k + 1)) e (k + 1) := by
  obtain ⟨h1, rfl⟩ := List.getElem?_eq_some_iff.1 hx
  obtain ⟨h2, rfl⟩ := List.getElem?_eq_some_iff.1 hb
  rw [List.drop_eq_getElem_cons h1, List.drop_eq_getElem_cons h2]
  rfl
theorem locGo_nil (bases : List Int) (e : Int) (k : Nat) : locGo [] bases e k = (-1, -1) := by
  cases bases <;> rfl
def RetTwo (p : Int × Int) (w : World) (r : Ending) (w' : World) : Prop := r = .returned (.tuple #[.int .i64 p.1, .int .i64 p.2]) ∧ Gro w w'
theorem ret_two {p q : Int × Int} (h : p = q) {w w' : World} (hG : Gro w w') : RetTwo p w (.returned (.tuple #[.int .i64 q.1, .int .i64 q.2])) w' := by
  subst h
  exact ⟨rfl, hG⟩
set_option maxRecDepth 100000 in
set_option maxHeartbeats 4000000 in
theorem locate_s {imgs : List DImage} {bases es : List Int} {e : Int} {w : World} {A0 A1 A2 : Option Addr} {c0 c1 c2 : Nat} (h0 : (tImage.sl 96).R w w.heap.size [.slice A0 imgs.length c0] imgs) (h1 : (intT.sl 3).R w w.heap.size [.slice A1 bases.length c1] bases)
    (hl : imgs.length = bases.length) (hst : ∀ x ∈ imgs, x.Code.size ≤ 1099511627776) (hbs : ∀ b ∈ bases, btw b 1 1000000 = true) (he : I64 e) :
    Calls Try.prog 82 #[.agg #[.slice A0 imgs.length c0, .slice A1 bases.length c1, .slice A2 es.length c2], .int .i64 e] w (RetTwo (locGo imgs bases e 0) w) := by
  obtain ⟨_, _, hx', hxl, hcm⟩ := sl_at h0
  injection hx' with e1 e2 e3
  subst e1 e3
  clear e2
  obtain ⟨_, _, hx', hyl, hdm⟩ := sl_at h1
  injection hx' with e1 e2 e3
  subst e1 e3
  clear e2
  obtain ⟨he1, he2⟩ := he
  have hl2 := Nat.le_of_eq hl
  clear hl
  go_enter Try.func82, Try.ntmps82
  go_wp2_with (fail)
  have hG0 : Gro w (w.alloc (.cells #[.slice A0 imgs.length c0, .slice A1 bases.length c1, .slice A2 es.length c2] 33)) := (by repeat (first | with_reducible exact Gro.refl _ | with_reducible exact Gro.refl_drew _ _ _ | with_reducible exact Gro.refl_drewN _ _ _ _ | assumption | with_reducible apply Gro.more | with_reducible apply Gro.alloc | with_reducible apply Gro.drew | with_reducible apply Gro.drewN))
  have eb := heap_alloc_new w (.cells #[.slice A0 imgs.length c0, .slice A1 bases.length c1, .slice A2 es.length c2] 33)
  have k0 := Ty.up _ h0 hG0
  have k1 := Ty.up _ h1 hG0
  obtain ⟨g0, hg0⟩ : ∃ g0, w.heap.size = g0 := ⟨_, rfl⟩
  rw [hg0] at eb ⊢
  generalize w.alloc (.cells #[.slice A0 imgs.length c0, .slice A1 bases.length c1, .slice A2 es.length c2] 33) = Y at hG0 eb k0 k1 ⊢
  clear h0 h1 hg0
  obtain ⟨y0, y1, _, _, yl⟩ := box3 eb
  go_loopw [6] (fun x wr => ∃ k : Nat, x = .int .i64 k ∧ k ≤ imgs.length ∧ Hid (locGo (imgs.drop k) (bases.drop k) e k = locGo imgs bases e 0) ∧ Hid (Gro Y wr)) (fun x _ => imgs.length - (intOf x).toNat)
  case atStart => exact ⟨0, rfl, Nat.zero_le _, Lib.hid rfl, Lib.hid (Gro.refl _)⟩
  case round =>
    obtain ⟨k, rfl, hk, hE, hG⟩ := hrel
    obtain ⟨os, d, rfl⟩ := hG.out
    clear hG
    by_cases hlt : k < imgs.length
    · obtain ⟨g, off, x, A, c, rfl, hgb, hxk, hx0, hx1, bx0, bx1⟩ := atImage k0 hlt
      obtain ⟨gb, offb, b, rfl, hbk, hcb, bb1, bb2⟩ := ints_at k1 (k := k) (by omega)
      have hbb := btw_iff.1 (hbs b (List.mem_of_getElem? hbk))
      have hsz := hst x (List.mem_of_getElem? hxk)
      have hz := locGo_at hxk hbk e
      rw [hE.out] at hz
      have hc0 := gro_keeps hx0 os d
      have hcb' := gro_keeps hcb os d
      have z0 := gro_keeps y0 os d
      have z1 := gro_keeps y1 os d
      have hki : (k : Int) < (imgs.length : Int) := by omega
      have hki2 : (k : Int) < (bases.length : Int) := by omega
      have w1 : IntKind.i64.wrap (b + (x.Code.size : Int)) = b + (x.Code.size : Int) := IntWalk.i64_in _ (by omega)
      clear hxk hbk hE
      by_cases q0 : b ≤ e
      · have r0 : decide (b ≤ e) = true := decide_eq_true q0
        by_cases q1 : e < b + (x.Code.size : Int)
        · have r1 : decide (e < b + (x.Code.size : Int)) = true := decide_eq_true q1
          have w2 : IntKind.i64.wrap (e - b) = e - b := IntWalk.i64_in _ (by omega)
          have HQ := Lib.hid (show locGo imgs bases e 0 = ((k : Int), e - b) from by rw [hz, if_pos ⟨q0, q1⟩])
          clear hz
          go_wp2_with (fail)
          go_quiet (fail)
          go_wp2_with (fail)
          go_quiet (fail)
          go_wp2_with (fail)
          go_ret2
          exact ret_two (q := ((k : Int), e - b)) HQ.out (hG0.trans (by (repeat (first | with_reducible exact Gro.refl _ | with_reducible exact Gro.refl_drew _ _ _ | with_reducible exact Gro.refl_drewN _ _ _ _ | assumption | with_reducible apply Gro.more | with_reducible apply Gro.alloc | with_reducible apply Gro.drew | with_reducible apply Gro.drewN)); done))
        · have r1 : decide (e < b + (x.Code.size : Int)) = false := decide_eq_false q1
          have HE := Lib.hid (show locGo (imgs.drop (k + 1)) (bases.drop (k + 1)) e (k + 1) = locGo imgs bases e 0 from by rw [hz, if_neg (fun h => q1 h.2)])
          clear hz
          go_wp2_with (fail)
          go_quiet (fail)
          go_wp2_with (fail)
          go_roundw
          case measure => (simp [intOf]; try omega)
          case rel => exact ⟨k + 1, by go_num, by omega, HE, Lib.hid (by repeat (first | with_reducible exact Gro.refl _ | with_reducible exact Gro.refl_drew _ _ _ | with_reducible exact Gro.refl_drewN _ _ _ _ | assumption | with_reducible apply Gro.more | with_reducible apply Gro.alloc | with_reducible apply Gro.drew | with_reducible apply Gro.drewN))⟩
      · have r0 : decide (b ≤ e) = false := decide_eq_false q0
        have HE := Lib.hid (show locGo (imgs.drop (k + 1)) (bases.drop (k + 1)) e (k + 1) = locGo imgs bases e 0 from by rw [hz, if_neg (fun h => q0 h.1)])
        clear hz
        go_wp2_with (fail)
        go_quiet (fail)
        go_wp2_with (fail)
        go_roundw
        case measure => (simp [intOf]; try omega)
        case rel => exact ⟨k + 1, by go_num, by omega, HE, Lib.hid (by repeat (first | with_reducible exact Gro.refl _ | with_reducible exact Gro.refl_drew _ _ _ | with_reducible exact Gro.refl_drewN _ _ _ _ | assumption | with_reducible apply Gro.more | with_reducible apply Gro.alloc | with_reducible apply Gro.drew | with_reducible apply Gro.drewN))⟩
    · obtain rfl : k = imgs.length := by omega
      have HQ := Lib.hid (show locGo imgs bases e 0 = (-1, -1) from by rw [← hE.out, List.drop_length]; exact locGo_nil _ _ _)
      have z0 := gro_keeps y0 os d
      clear hE
      go_wp2_with (fail)
      go_ret2
      exact ret_two (q := (-1, -1)) HQ.out (hG0.trans (by (repeat (first | with_reducible exact Gro.refl _ | with_reducible exact Gro.refl_drew _ _ _ | with_reducible exact Gro.refl_drewN _ _ _ _ | assumption | with_reducible apply Gro.more | with_reducible apply Gro.alloc | with_reducible apply Gro.drew | with_reducible apply Gro.drewN)); done))
set_option maxRecDepth 100000 in
set_option maxHeartbeats 4000000 in
theorem locate_i {imgs : List DImage} {bases es : List Int} {e : Int} {w : World} {A0 A1 A2 : Option Addr} {c0 c1 c2 : Nat} (h0 : (tImage.sl 96).R w w.heap.size [.slice A0 imgs.length c0] imgs) (h1 : (intT.sl 3).R w w.heap.size [.slice A1 bases.length c1] bases)
    (hl : imgs.length = bases.length) (hst : ∀ x ∈ imgs, x.Code.size ≤ 1099511627776) (hbs : ∀ b ∈ bases, btw b 1 1000000 = true) (he : I64 e) :
    Calls Try.prog 130 #[.agg #[.slice A0 imgs.length c0, .slice A1 bases.length c1, .slice A2 es.length c2], .int .i64 e] w (RetTwo (locGo imgs bases e 0) w) := by
  obtain ⟨_, _, hx', hxl, hcm⟩ := sl_at h0
  injection hx' with e1 e2 e3
  subst e1 e3
  clear e2
  obtain ⟨_, _, hx', hyl, hdm⟩ := sl_at h1
  injection hx' with e1 e2 e3
  subst e1 e3
  clear e2
  obtain ⟨he1, he2⟩ := he
  have hl2 := Nat.le_of_eq hl
  clear hl
  go_enter Try.func130, Try.ntmps130
  go_wp2_with (fail)
  have hG0 : Gro w (w.alloc (.cells #[.slice A0 imgs.length c0, .slice A1 bases.length c1, .slice A2 es.length c2] 33)) := (by repeat (first | with_reducible exact Gro.refl _ | with_reducible exact Gro.refl_drew _ _ _ | with_reducible exact Gro.refl_drewN _ _ _ _ | assumption | with_reducible apply Gro.more | with_reducible apply Gro.alloc | with_reducible apply Gro.drew | with_reducible apply Gro.drewN))
  have eb := heap_alloc_new w (.cells #[.slice A0 imgs.length c0, .slice A1 bases.length c1, .slice A2 es.length c2] 33)
  have k0 := Ty.up _ h0 hG0
  have k1 := Ty.up _ h1 hG0
  obtain ⟨g0, hg0⟩ : ∃ g0, w.heap.size = g0 := ⟨_, rfl⟩
  rw [hg0] at eb ⊢
  generalize w.alloc (.cells #[.slice A0 imgs.length c0, .slice A1 bases.length c1, .slice A2 es.length c2] 33) = Y at hG0 eb k0 k1 ⊢
  clear h0 h1 hg0
  obtain ⟨y0, y1, _, _, yl⟩ := box3 eb
  go_loopw [11] (fun x wr => ∃ k : Nat, x = .int .i64 k ∧ k ≤ imgs.length ∧ Hid (locGo (imgs.drop k) (bases.drop k) e k = locGo imgs bases e 0) ∧ Hid (Gro Y wr)) (fun x _ => imgs.length - (intOf x).toNat)
  case atStart => exact ⟨0, rfl, Nat.zero_le _, Lib.hid rfl, Lib.hid (Gro.refl _)⟩
  case round =>
    obtain ⟨k, rfl, hk, hE, hG⟩ := hrel
    obtain ⟨os, d, rfl⟩ := hG.out
    clear hG
    by_cases hlt : k < imgs.length
    · obtain ⟨g, off, x, A, c, rfl, hgb, hxk, hx0, hx1, bx0, bx1⟩ := atImage k0 hlt
      obtain ⟨gb, offb, b, rfl, hbk, hcb, bb1, bb2⟩ := ints_at k1 (k := k) (by omega)
      have hbl := World.block_lt_of_cell? _ _ hcb
      simp only at hbl
      have hbb := btw_iff.1 (hbs b (List.mem_of_getElem? hbk))
      have hsz := hst x (List.mem_of_getElem? hxk)
      have hz := locGo_at hxk hbk e
      rw [hE.out] at hz
      have hc0 := gro_keeps hx0 os d
      have hc1 := gro_keeps hx1 os d
      have hcb' := gro_keeps hcb os d
      have z0 := gro_keeps y0 os d
      have z1 := gro_keeps y1 os d
      have hki : (k : Int) < (imgs.length : Int) := by omega
      have hki2 : (k : Int) < (bases.length : Int) := by omega
      have w1 : IntKind.i64.wrap (b + (x.Code.size : Int)) = b + (x.Code.size : Int) := IntWalk.i64_in _ (by omega)
      have w3 : IntKind.i64.wrap (b + (x.Code.size : Int) - 1) = b + (x.Code.size : Int) - 1 := IntWalk.i64_in _ (by omega)
      clear hxk hbk hE
      by_cases q : b ≤ e ∧ e < b + (x.Code.size : Int)
      · have hv : btw e b (b + (x.Code.size : Int) - 1) = true := btw_mk q.1 (by omega)
        have HQ := Lib.hid (show locGo imgs bases e 0 = ((k : Int), e - b) from by rw [hz, if_pos q])
        have w2 : IntKind.i64.wrap (e - b) = e - b := IntWalk.i64_in _ (by omega)
        clear hz q
        go_wp2_with (fail)
        go_quiet ((first | (go_at_call 48; with_reducible exact in_iv hv _ _)))
        go_wp2_with (fail)
        go_quiet (fail)
        go_wp2_with (fail)
        go_ret2
        exact ret_two (q := ((k : Int), e - b)) HQ.out (hG0.trans (by (repeat (first | with_reducible exact Gro.refl _ | with_reducible exact Gro.refl_drew _ _ _ | with_reducible exact Gro.refl_drewN _ _ _ _ | assumption | with_reducible apply Gro.more | with_reducible apply Gro.alloc | with_reducible apply Gro.drew | with_reducible apply Gro.drewN)); done))
      · have hv : btw e b (b + (x.Code.size : Int) - 1) = false := by
          cases h : btw e b (b + (x.Code.size : Int) - 1)
          · rfl
          · exact absurd ⟨(btw_iff.1 h).1, by have := (btw_iff.1 h).2; omega⟩ q
        have HE := Lib.hid (show locGo (imgs.drop (k + 1)) (bases.drop (k + 1)) e (k + 1) = locGo imgs bases e 0 from by rw [hz, if_neg q])
        clear hz q
        go_wp2_with (fail)
        go_quiet ((first | (go_at_call 48; with_reducible exact in_iv hv _ _)))
        go_wp2_with (fail)
        go_roundw
        case measure => (simp [intOf]; try omega)
        case rel => exact ⟨k + 1, by go_num, by omega, HE, Lib.hid (by repeat (first | with_reducible exact Gro.refl _ | with_reducible exact Gro.refl_drew _ _ _ | with_reducible exact Gro.refl_drewN _ _ _ _ | assumption | with_reducible apply Gro.more | with_reducible apply Gro.alloc | with_reducible apply Gro.drew | with_reducible apply Gro.drewN))⟩
    · obtain rfl : k = imgs.length := by omega
      have HQ := Lib.hid (show locGo imgs bases e 0 = (-1, -1) from by rw [← hE.out, List.drop_length]; exact locGo_nil _ _ _)
      have z0 := gro_keeps y0 os d
      clear hE
      go_wp2_with (fail)
      go_ret2
      exact ret_two (q := (-1, -1)) HQ.out (hG0.trans (by (repeat (first | with_reducible exact Gro.refl _ | with_reducible exact Gro.refl_drew _ _ _ | with_reducible exact Gro.refl_drewN _ _ _ _ | assumption | with_reducible apply Gro.more | with_reducible apply Gro.alloc | with_reducible apply Gro.drew | with_reducible apply Gro.drewN)); done))
end Go.Proofs.Ytbhobjepjaeffaa
