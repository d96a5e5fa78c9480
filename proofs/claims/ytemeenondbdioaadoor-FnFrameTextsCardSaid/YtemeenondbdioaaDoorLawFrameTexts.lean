/-
  The law FnFrameTexts answers true for every input: drawn stacks are parsed from their texts, and not from these with a separator behind them; the input stays. No condition.
-/
import Derived.Test.YtemeenondbdioaaDoorRows
import Derived.Test.YtemeenondbdioaaDoorOpen
import Derived.Test.YtemeenondbdioaaDoorLawBase
import Derived.Test.YtemeenondbdioaaDoorDraw2
import Derived.Test.YtemeenondbdioaaDoorBackLaw
import Derived.Test.YtemeenondbdioaaDoorParse3
import Derived.Test.YtemeenondbdioaaDoorSameL
import Derived.Test.YtemeenondbdioaaDoorTie
import Derived.Test.YtemeenondbdioaaDoorCards
import Derived.LaidMore
import Derived.Stop.Joined
import Derived.SevenTiedAt
import Derived.Test.YtemeenondbdioaaDoorShape
import Derived.Lay
import Derived.ShutString
import Derived.Deep.RegionHeld3
import Derived.BigQuiet
set_option linter.unusedVariables false
set_option linter.unusedSimpArgs false
namespace Go.Proofs.YtemeenondbdioaaDoor.fnFrameTexts
open Go.ChangeShapes Go.WideShapes Go.ChangeAt Go.RowKit
open Go.ChangeMaps (open_string shut_string)
theorem own : ownKnob Tryd.prog.godebug = none := by kernel_rfl
theorem laidOut : laidOutB Tryd.prog = true := by kernel_rfl
set_option maxRecDepth 100000 in
set_option maxHeartbeats 4000000 in
theorem walk (w : World) (v : Value) (xs : List UInt8) (hx : (byteT.sl 5).R w w.heap.size [v] xs) {m : Int} (hm : w.cell? ⟨0, 0, none⟩ = some (.int .i64 m)) :
    Calls Tryd.prog 9 #[v] w fun e w' => e = .returned (.bool true) ∧ Gro w w' := by
  have HM := Lib.hid hm
  clear hm
  obtain ⟨A, c, rfl, hxl, hcm⟩ := sl_at hx
  by_cases hb : xs.length ≤ 1048576
  case neg =>
    have hb2 := Lib.hid (show decide (1048576 < (xs.length : Int)) = true from decide_eq_true (by omega))
    go_enter Tryd.func9, Tryd.ntmps9
    go_wp2_with (go_at_call 40; refine (big_l _ _ _ _).mono ?_; rw [hb2.out]; rintro e w1 ⟨rfl, os1, d1, rfl⟩)
    go_ret
    exact ⟨rfl, (by repeat (first | with_reducible exact Gro.refl _ | with_reducible exact Gro.refl_drew _ _ _ | with_reducible exact Gro.refl_drewN _ _ _ _ | assumption | with_reducible apply Gro.more | with_reducible apply Gro.alloc | with_reducible apply Gro.drew | with_reducible apply Gro.drewN))⟩
  have hb2 := Lib.hid (show decide (1048576 < (xs.length : Int)) = false from decide_eq_false (by omega))
  go_enter Tryd.func9, Tryd.ntmps9
  go_wp2_with (go_at_call 40; refine (big_l _ _ _ _).mono ?_; rw [hb2.out]; rintro e w1 ⟨rfl, os1, d1, rfl⟩)
  refine (stacks_s (Ty.up _ hx (by repeat (first | with_reducible exact Gro.refl _ | with_reducible exact Gro.refl_drew _ _ _ | with_reducible exact Gro.refl_drewN _ _ _ _ | assumption | with_reducible apply Gro.more | with_reducible apply Gro.alloc | with_reducible apply Gro.drew | with_reducible apply Gro.drewN))) (by omega)).mono ?_
  rintro e W2 ⟨A2, c2, l, rfl, hst, hll, hG2, hF2⟩
  have hG2' : Gro w W2 := (Gro.more (Gro.refl w) os1 d1).trans hG2
  have hR2 := hF2.read
  clear hF2
  obtain ⟨os2, d2, rfl⟩ := hG2'
  clear hG2
  go_wp2_with (fail)
  go_loopw [4] (fun b wr => ∃ (j : Nat), b = .int .i64 j ∧ j ≤ l.length ∧ Hid (Gro (gro w os2 d2) wr)) (fun b _ => l.length - (intOf b).toNat)
  case atStart => exact ⟨0, rfl, Nat.zero_le _, Gro.refl _⟩
  case round =>
    obtain ⟨j, rfl, hj, hG⟩ := hrel
    obtain ⟨os, d, rfl⟩ := hG.out
    clear hG
    by_cases hlt : j < l.length
    · obtain ⟨g, off, fs, ec, rfl, hgb, hxk, hR, hcell⟩ := elem_at hR2 hlt
      obtain ⟨S, hS⟩ : ∃ u, ec = [u] := by
        have := (tFrame.sl 69).lenR hR
        match ec, this with
        | [u], _ => exact ⟨u, rfl⟩
      subst hS
      obtain ⟨A4, c4, rfl, hf1, hf2⟩ := sl_at hR
      have hcx := gro_keeps (hcell 0 _ rfl) os d
      simp only [show (tFrame.sl 69).size = 1 from rfl, Nat.mul_one, Nat.add_zero] at hcx
      have hfs := hst fs (List.mem_of_getElem? hxk)
      obtain ⟨⟨hne, hok⟩, hfl⟩ := hfs
      clear hcell hxk
      obtain ⟨s, hs⟩ : ∃ s, fmtF fs = s := ⟨_, rfl⟩
      have hsz : s.size ≤ 48 := by rw [← hs]; have := fmtF_size fs; omega
      have hsn : s.size ≠ 0 := by
        intro h0
        have h1 := parse_back hok hne
        obtain ⟨_, h2⟩ := parseF_fmt h1
        rw [hs] at h2
        exact h2 h0
      have HP := Lib.hid (show parseR s = (fs, true) from by unfold parseR; rw [← hs, parse_back hok hne])
      obtain ⟨s2, hs2⟩ : ∃ s2, s ++ ({ data := #[59] } : ByteArray) = s2 := ⟨_, rfl⟩
      have HQ := Lib.hid (show parseR s2 = ([], false) from by unfold parseR; rw [← hs2, ← hs, parse_more hok])
      have HS := Lib.hid hs
      have hz2 : s2.size ≤ 49 := by rw [← hs2, ByteArray.size_append]; have h1 : ({ data := #[59] } : ByteArray).size = 1 := rfl; rw [h1]; omega
      have HS2 := Lib.hid hs2
      clear hs2
      have hse : (s.toList == []) = false := by
        rw [toList_dat]
        cases hd : s.data.toList with
        | nil =>
          exfalso
          apply hsn
          show s.data.size = 0
          rw [← Array.length_toList, hd]
          rfl
        | cons a b => rfl
      clear hs hsn
      go_wp2_with (fail)
      refine (fmtF_i (Ty.up _ hR (by repeat (first | with_reducible exact Gro.refl _ | with_reducible exact Gro.refl_drew _ _ _ | with_reducible exact Gro.refl_drewN _ _ _ _ | assumption | with_reducible apply Gro.more | with_reducible apply Gro.alloc | with_reducible apply Gro.drew | with_reducible apply Gro.drewN))) (by omega)).mono ?_
      rw [HS.out]
      rintro e w3 ⟨rfl, os3, d3, rfl⟩
      go_wp2_with (fail)
      refine (parseF_i s (by omega) (Gro.cell (by repeat (first | with_reducible exact Gro.refl _ | with_reducible exact Gro.refl_drew _ _ _ | with_reducible exact Gro.refl_drewN _ _ _ _ | assumption | with_reducible apply Gro.more | with_reducible apply Gro.alloc | with_reducible apply Gro.drew | with_reducible apply Gro.drewN)) HM.out)).mono ?_
      rw [HP.out]
      rintro e w4 ⟨A5, c5, rfl, hF5, os4, d4, rfl⟩
      go_wp2_with (fail)
      rw [HS2.out]
      refine (parseF_i s2 (by omega) (Gro.cell (by repeat (first | with_reducible exact Gro.refl _ | with_reducible exact Gro.refl_drew _ _ _ | with_reducible exact Gro.refl_drewN _ _ _ _ | assumption | with_reducible apply Gro.more | with_reducible apply Gro.alloc | with_reducible apply Gro.drew | with_reducible apply Gro.drewN)) HM.out)).mono ?_
      rw [HQ.out]
      rintro e w6 ⟨A6, c6, rfl, hF6, os6, d6, rfl⟩
      have hR5 := hF5.read
      have hcx6 := gro_keeps (gro_keeps (gro_keeps hcx os3 d3) os4 d4) os6 d6
      clear hF5 hF6 hx
      go_wp2_with (fail)
      refine (sameFrames_l (xs := fs) (ys := fs) (Ty.up _ hR5 (by repeat (first | with_reducible exact Gro.refl _ | with_reducible exact Gro.refl_drew _ _ _ | with_reducible exact Gro.refl_drewN _ _ _ _ | assumption | with_reducible apply Gro.more | with_reducible apply Gro.alloc | with_reducible apply Gro.drew | with_reducible apply Gro.drewN))) (Ty.up _ hR (by repeat (first | with_reducible exact Gro.refl _ | with_reducible exact Gro.refl_drew _ _ _ | with_reducible exact Gro.refl_drewN _ _ _ _ | assumption | with_reducible apply Gro.more | with_reducible apply Gro.alloc | with_reducible apply Gro.drew | with_reducible apply Gro.drewN)))).mono ?_
      rw [show decide (fs = fs) = true from decide_eq_true rfl]
      rintro e w7 ⟨rfl, os7, d7, rfl⟩
      go_wp2_with (fail)
      go_roundw
      case rel => exact ⟨j + 1, by go_num, by omega, Lib.hid (by repeat (first | with_reducible exact Gro.refl _ | with_reducible exact Gro.refl_drew _ _ _ | with_reducible exact Gro.refl_drewN _ _ _ _ | assumption | with_reducible apply Gro.more | with_reducible apply Gro.alloc | with_reducible apply Gro.drew | with_reducible apply Gro.drewN))⟩
      case measure => simp [intOf]; omega
    · obtain rfl : j = l.length := by omega
      have HN := Lib.hid (show parseR ⟨#[]⟩ = ([], false) from by unfold parseR; rw [parse_none])
      go_wp2_with (first
        | (go_at_call 16; (with_reducible refine (parseF_i ⟨#[]⟩ (by decide) (Gro.cell (by repeat (first | with_reducible exact Gro.refl _ | with_reducible exact Gro.refl_drew _ _ _ | with_reducible exact Gro.refl_drewN _ _ _ _ | assumption | with_reducible apply Gro.more | with_reducible apply Gro.alloc | with_reducible apply Gro.drew | with_reducible apply Gro.drewN)) HM.out)).mono ?_); rw [HN.out]; rintro e w4 ⟨A5, c5, rfl, hF5, os4, d4, rfl⟩)
        | (go_at_call 13; refine (fmtF_i (l := [⟨⟨#[109, 97, 105, 110]⟩, 7⟩]) (fresh_one flatFrame (W1 := w) (B := 0) (ec := [.string ⟨#[109, 97, 105, 110]⟩, .int .i64 7]) (x := ⟨⟨#[109, 97, 105, 110]⟩, 7⟩) (tFrame_mkR (x := ⟨⟨#[109, 97, 105, 110]⟩, 7⟩) (by decide) ⟨by decide, by decide⟩) (Gro.refl _) (by simp)).read (by decide)).mono ?_; rw [fmt_main7]; rintro e w3 ⟨rfl, os3, d3, rfl⟩))
      go_ret
      exact ⟨rfl, (by repeat (first | with_reducible exact Gro.refl _ | with_reducible exact Gro.refl_drew _ _ _ | with_reducible exact Gro.refl_drewN _ _ _ _ | assumption | with_reducible apply Gro.more | with_reducible apply Gro.alloc | with_reducible apply Gro.drew | with_reducible apply Gro.drewN))⟩

set_option maxRecDepth 100000 in
theorem lifted (os : Os) (started : os.Started) (H : Type) (enc : TypeId × Value → H) :
    ReturnsInHanded {} Tryd.checked os 9 .any (fun w args => (Rows.fnFrameTextsSpec.pre enc Tryd.prog Tryd.f9 Rows.fnFrameTextsRow.domain false w args ∧ laidMetH Tryd.prog Rows.fnFrameTextsRow.laid w) ∧ sizedMet enc Tryd.prog Tryd.f9 (OpenSpec.ofChange Rows.fnFrameTextsSpec) false w args) (Rows.fnFrameTextsSpec.post enc Tryd.prog Tryd.f9 false true false false) := by
  refine returns_and_shaped (C := Tryd.checked) (X := fun w _ => laidMetH Tryd.prog Rows.fnFrameTextsRow.laid w) (fun _ _ _ hh h => h.of_heap hh) own started (by kernel_rfl) Tryd.func9
    (ChangeSpec.witness_shaped (enc := enc) (C := Tryd.checked) (os := os) (X := fun w _ => laidMetH Tryd.prog Rows.fnFrameTextsRow.laid w) false (World.laidAll Tryd.prog os Rows.fnFrameTextsRow.laid) #[.slice none 0 0] 8 (World.laidAll_os _ _ _) (World.shaped_of_ZipB (by kernel_rfl) (by kernel_rfl)) (by kernel_rfl) (by kernel_rfl) (by kernel_rfl) (by rw [MakeChecks.laidMetH_plain _ _ _ (by kernel_rfl)]; exact laidMet_laidAll _ (by kernel_rfl) (by kernel_rfl))) ?_
  intro W base args ds gs before hval0 hW _ _ hL hSH _
  obtain ⟨mlen, hmlen⟩ := max_len hSH
  have hval : ∀ (j : Nat) t v, Tryd.f9.params[j]? = some t → args[j]? = some v → Value.okWide Tryd.prog W .any base t v := hval0
  have hW' := hW
  obtain ⟨p, q, hA0, hV, rfl, hfz, hnd⟩ := hW
  have hA : DataW.TrodAll enc Tryd.prog W 0 (fun _ => true) true Tryd.f9.params.toList args.toList ds p := hA0
  rw [Tryd.params9] at hA hval
  obtain ⟨v0, vs0, d0, ds0, p0, q0, hargs, rfl, rfl, h0, r0⟩ := trodAll_cons hA
  obtain ⟨rfl, rfl, rfl⟩ := trodAll_nil r0
  obtain rfl : args = #[v0] := by cases args; simp_all
  obtain ⟨rfl, rfl⟩ := trodVars_none hV
  have k0 := h0
  have lt0 : ∀ x ∈ p0, x.block < W.heap.size := by obtain ⟨m, hm⟩ := k0; exact DataW.trod_lt m _ _ _ hm
  obtain ⟨a0, w0⟩ := arg_open (opens_sl (e' := 5) Tryd.underlying64 (by kernel_rfl) (by decide) (opens_byte Tryd.underlying5)) h0
  rw [arg_slice Tryd.underlying64 (hval 0 64 v0 rfl rfl)] at w0
  clear hA0 hval0
  refine (walk W v0 a0 w0 hmlen).mono fun e W' ⟨he, hgro⟩ => ?_
  subst he
  have bel := hgro.below
  exact ⟨_, rfl, _, _, _, [], _, [], hW', trodAll_mk1 (shut_bool Tryd.underlying4 _), (trodAll_cons_mk (Below.trod laidOut (by kernel_rfl) (of_decide_eq_true (by kernel_rfl)) k0 bel lt0) trodAll_mk0), rfl, bel.frame _, fun h => by cases h⟩
theorem over : Rows.fnFrameTextsRow.holds Tryd.pinned (OpenSpec.ofChange Rows.fnFrameTextsSpec) :=
  OpenClaim.holds_of_wide 9 Tryd.f9 rfl rfl rfl rfl rfl rfl rfl ⟨rfl, rfl, rfl, rfl, rfl⟩ rfl rfl rfl rfl rfl (by kernel_rfl) Tryd.func9 (by kernel_rfl)
    (of_decide_eq_true (by kernel_rfl)) (by unfold Func.isWrapper; first | (rw [if_pos (by decide +kernel)]; kernel_rfl) | (rw [if_neg (by decide +kernel)]; exact ⟨rfl, rfl⟩))
    (fun os started H enc _ => lifted os started H enc)
/-- THE STATEMENT: the tied card -/
theorem proved : Rows.FnFrameTextsCardSaid :=
  Claim7.holds_tied_plain_at .later [] [.data, .data, .data, .data, .pinned] true (true, "54120b9bef3c3c8c25bcfb6c7db8f79644f2e0607041845cc316ea18f93f2beb") false
    over (fun _ h => by cases h) (by kernel_rfl) (fun _ h => by cases h) fnFrameTexts_row_tie rfl ⟨rfl, rfl⟩ (by kernel_rfl) rfl
    (fun f fn hf hfn => by
      obtain rfl : f = 9 := Option.some.inj ((show Tryd.prog.funcNamed "loop.example/g03314/laws.FnFrameTexts" = some 9 by kernel_rfl).symm.trans hf) |>.symm
      obtain rfl : fn = Tryd.f9 := (Option.some.inj (Tryd.func9.symm.trans hfn)).symm
      exact ⟨by kernel_rfl, fun j t ht => by
        rw [Tryd.params9] at ht
        have hm : t ∈ [64] := by simpa using Array.mem_of_getElem? ht
        have hall : ([64].all fun u => !Tryd.prog.wantsStandIn u) = true := by kernel_rfl
        exact (show Tryd.prog.wantsStandIn t = false by simpa using List.all_eq_true.1 hall t hm)⟩)
    (by kernel_rfl)
#print axioms proved
end Go.Proofs.YtemeenondbdioaaDoor.fnFrameTexts
