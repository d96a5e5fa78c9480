/-
  The law FnInterned answers true for every input: stacks come back from their nodes, equal stacks have the same node, and all beginnings have nodes; the input stays. No condition.
-/
import Derived.Test.YtdlkoffandhclaaRows
import Derived.Test.YtdlkoffandhclaaOpen
import Derived.Test.YtdlkoffandhclaaLawBase
import Derived.Test.YtdlkoffandhclaaInternLaw
import Derived.Test.YtdlkoffandhclaaSameL
import Derived.Test.YtdlkoffandhclaaDraw2
import Derived.Test.YtdlkoffandhclaaOwn
import Derived.Test.YtdlkoffandhclaaBoxes
import Derived.Test.YtdlkoffandhclaaBox4
import Derived.Test.YtdlkoffandhclaaProfile2
import Derived.ShutString
import Derived.Deep.RegionHeld3
import Derived.BigQuiet
import Derived.Deep.CutRange
set_option linter.unusedVariables false
set_option linter.unusedSimpArgs false
namespace Go.Proofs.Ytdlkoffandhclaa.fnInterned
open Go.ChangeShapes Go.WideShapes Go.ChangeAt Go.RowKit
open Go.ChangeMaps (open_string shut_string)
theorem own : ownKnob Try.prog.godebug = none := by kernel_rfl
theorem laidOut : laidOutB Try.prog = true := by kernel_rfl
set_option maxRecDepth 100000 in
set_option maxHeartbeats 8000000 in
theorem walk (w : World) (v : Value) (xs : List UInt8) (hx : (byteT.sl 5).R w w.heap.size [v] xs) :
    Calls Try.prog 5 #[v] w fun e w' => e = .returned (.bool true) ∧ Gro w w' := by
  obtain ⟨A, c, rfl, hxl, hcm⟩ := sl_at hx
  by_cases hb : xs.length ≤ 1048576
  case neg =>
    have hb2 := Lib.hid (show decide (1048576 < (xs.length : Int)) = true from decide_eq_true (by omega))
    go_enter Try.func5, Try.ntmps5
    go_wp2_with (go_at_call 11; refine (big_l _ _ _ _).mono ?_; rw [hb2.out]; rintro e w1 ⟨rfl, os1, d1, rfl⟩)
    go_ret
    exact ⟨rfl, (by repeat (first | with_reducible exact Gro.refl _ | with_reducible exact Gro.refl_drew _ _ _ | with_reducible exact Gro.refl_drewN _ _ _ _ | assumption | with_reducible apply Gro.more | with_reducible apply Gro.alloc | with_reducible apply Gro.drew | with_reducible apply Gro.drewN))⟩
  have hb2 := Lib.hid (show decide (1048576 < (xs.length : Int)) = false from decide_eq_false (by omega))
  go_enter Try.func5, Try.ntmps5
  go_wp2_with (go_at_call 11; refine (big_l _ _ _ _).mono ?_; rw [hb2.out]; rintro e w1 ⟨rfl, os1, d1, rfl⟩)
  refine (stacks_s (Ty.up _ hx (by repeat (first | with_reducible exact Gro.refl _ | with_reducible exact Gro.refl_drew _ _ _ | with_reducible exact Gro.refl_drewN _ _ _ _ | assumption | with_reducible apply Gro.more | with_reducible apply Gro.alloc | with_reducible apply Gro.drew | with_reducible apply Gro.drewN))) (by omega)).mono ?_
  rintro e W2 ⟨Al, cl, l, rfl, hst, hll, hG2, hFl⟩
  have hGw : Gro w W2 := (Gro.more (Gro.refl w) os1 d1).trans hG2
  have hRl := hFl.read
  clear hG2 hFl
  have HST := Lib.hid hst
  clear hst
  go_wp2_with (fail)
  obtain ⟨g, hg⟩ : ∃ g, W2.heap.size = g := ⟨_, rfl⟩
  have hG0 : Gro W2 ((W2.alloc (.cells #[.slice none 0 0] 24)).alloc (.cells #[] 3)) := (by repeat (first | with_reducible exact Gro.refl _ | with_reducible exact Gro.refl_drew _ _ _ | with_reducible exact Gro.refl_drewN _ _ _ _ | assumption | with_reducible apply Gro.more | with_reducible apply Gro.alloc | with_reducible apply Gro.drew | with_reducible apply Gro.drewN))
  have e0 : ((W2.alloc (.cells #[.slice none 0 0] 24)).alloc (.cells #[] 3)).heap[g]? = some (.cells #[.slice none 0 0] 24 (0, 0)) := by
    subst hg
    exact grow_blk (heap_alloc_new W2 _) (by (repeat (first | with_reducible exact Gro.refl _ | with_reducible exact Gro.refl_drew _ _ _ | with_reducible exact Gro.refl_drewN _ _ _ _ | assumption | with_reducible apply Gro.more | with_reducible apply Gro.alloc | with_reducible apply Gro.drew | with_reducible apply Gro.drewN)); done)
  have e1 : ((W2.alloc (.cells #[.slice none 0 0] 24)).alloc (.cells #[] 3)).heap[g + 1]? = some (.cells #[] 3 (0, 0)) := by
    subst hg
    have h1 := heap_alloc_new (W2.alloc (.cells #[.slice none 0 0] 24)) (.cells #[] 3)
    simpa using h1
  have hwg : w.heap.size ≤ g := by have := hGw.size; omega
  rw [hg]
  generalize ((W2.alloc (.cells #[.slice none 0 0] 24)).alloc (.cells #[] 3)) = Y at hG0 e0 e1 ⊢
  have hgY : g + 1 < Y.heap.size := (Array.getElem?_eq_some_iff.1 e1).1
  go_loopw [5, 6] (fun a b wr => ∃ (k : Nat) (t : DStacks) (ids : List Int) (A0 : Option Addr) (c0 : Nat) (A1 : Option Addr) (c1 : Nat) (S0 S1 : List Nat), a = .slice A1 ids.length c1 ∧ b = .int .i64 k ∧ k ≤ l.length ∧ IC l k t ids ∧ Gro W2 wr ∧ Hid (wr.heap[g]? = some (.cells #[.slice A0 t.Nodes.length c0] 24 (0, 0))) ∧ Has (tNode.sl 65) wr [.slice A0 t.Nodes.length c0] t.Nodes S0 ∧ Has (intT.sl 3) wr [.slice A1 ids.length c1] ids S1 ∧ Hid (∀ b ∈ S0, g < b) ∧ Hid (∀ b ∈ S1, g < b) ∧ Hid (∀ b ∈ S0, b ∉ S1)) (fun _ b _ => l.length - (intOf b).toNat)
  case atStart => exact ⟨0, ⟨[]⟩, [], none, 0, _, 0, [], [g + 1], rfl, rfl, by omega, IC.start l, hG0, Lib.hid e0, Has.nil _ _ _, Has.emp _ e1, Lib.hid (by simp), Lib.hid (by simp), Lib.hid (by simp)⟩
  case round =>
    obtain ⟨k, t, ids, A0, c0, A1, c1, S0, S1, rfl, rfl, hk, hic, hG, hbx, hH0, hH1, hl0, hl1, hd01⟩ := hrel
    have hgl : g < wr.heap.size := (Array.getElem?_eq_some_iff.1 hbx.out).1
    have hfew := hic.few
    have hidl : ids.length ≤ k := Nat.le_of_eq hic.len
    have hRw := Ty.up _ hRl hG
    obtain ⟨y0, yf0⟩ := box1 hbx.out
    by_cases hlt : k < l.length
    · obtain ⟨gl, offl, s, As, cs, hAe, hglb, hs, hRs, hcs⟩ := lists_at hRw (k := k) hlt
      obtain ⟨hsk, hsl⟩ := HST.out s (List.mem_of_getElem? hs)
      obtain ⟨u, j, hin, hju, htu, hic'⟩ := hic.step hs hsk.1 hsk.2 hsl
      have hufew := hic'.few
      have HIN := Lib.hid hin
      have hki : (k : Int) < (l.length : Int) := by omega
      have hn1 : ¬ (u.Nodes.length : Int) ≤ (j : Int) := by omega
      have hn2 : ¬ (u.Nodes.length : Int) < (t.Nodes.length : Int) := by omega
      have hd1 : decide ((u.Nodes.length : Int) ≤ (j : Int)) = false := decide_eq_false hn1
      have hd2 : decide ((u.Nodes.length : Int) < (t.Nodes.length : Int)) = false := decide_eq_false hn2
      subst hAe
      clear hin hs hsk
      go_upto_region 9 with fail
      go_cut [7, 8] from 23 to 32 (fun a b wx => ∃ (bx : Nat) (A5 : Option Addr) (c5 : Nat) (T0 : List Nat), a = .pointer (some ⟨bx, 0, none⟩) ∧ b = .int .i64 (j : Int) ∧ wx.cell? ⟨bx, 0, none⟩ = some (.slice A5 u.Nodes.length c5) ∧ bx < wx.heap.size ∧ wr.heap.size ≤ bx ∧ Gro wr wx ∧ Has (tNode.sl 65) wx [.slice A5 u.Nodes.length c5] u.Nodes T0 ∧ (∀ b ∈ T0, wr.heap.size ≤ b))
      case first =>
        go_region_held3 (fun w' => w'.cell? ⟨g, 0, none⟩ = some (.slice A0 t.Nodes.length c0) ∧ w'.cell? ⟨gl, offl + k, none⟩ = some (.slice As s.length cs)) ((repeat' apply And.intro) <;> (first | ((repeat (first | assumption | with_reducible refine gro_keeps ?_ _ _ | with_reducible refine alloc_keeps ?_ _ | with_reducible refine drew_keeps ?_)); done) | (simp [go_sem]; done))) (first
          | (go_at_call 22; (with_reducible refine (internStack_i (t := t) (l := s) (Ty.up _ hH0.read (by repeat (first | with_reducible exact Gro.refl _ | with_reducible exact Gro.refl_drew _ _ _ | with_reducible exact Gro.refl_drewN _ _ _ _ | assumption | with_reducible apply Gro.more | with_reducible apply Gro.alloc | with_reducible apply Gro.drew | with_reducible apply Gro.drewN))) (Ty.up _ hRs (by repeat (first | with_reducible exact Gro.refl _ | with_reducible exact Gro.refl_drew _ _ _ | with_reducible exact Gro.refl_drewN _ _ _ _ | assumption | with_reducible apply Gro.more | with_reducible apply Gro.alloc | with_reducible apply Gro.drew | with_reducible apply Gro.drewN))) (by omega) (by omega)).mono ?_); rw [HIN.out]; rintro e w5 ⟨A5, c5, rfl, hF5, os5, d5, rfl⟩))
        all_goals go_wp2_with fail
        all_goals go_meet
        all_goals
          obtain ⟨T0, j0, j2⟩ := (stacks_nodes hF5).has
          simp at j2
          refine ⟨_, A5, c5, T0, rfl, rfl, by simp [go_sem], by simp <;> omega, by omega, (by repeat (first | with_reducible exact Gro.refl _ | with_reducible exact Gro.refl_drew _ _ _ | with_reducible exact Gro.refl_drewN _ _ _ _ | assumption | with_reducible apply Gro.more | with_reducible apply Gro.alloc | with_reducible apply Gro.drew | with_reducible apply Gro.drewN)), Has.same j0 j2 (by repeat (first | with_reducible exact Same.refl _ _ _ | ((with_reducible refine same_hi ?_ ?_) <;> (simp <;> omega)) | ((with_reducible refine same_gro ?_ ?_); rotate_left; (simp <;> omega)) | ((with_reducible refine same_alloc ?_ ?_); rotate_left; (simp <;> omega)) | ((with_reducible refine same_alloc_lo ?_ ?_ ?_); rotate_left; (simp <;> omega); (simp <;> omega)) | with_reducible apply same_drew_l | ((with_reducible refine Same.more ?_ ?_ _ _); rotate_left; simp <;> omega) | ((with_reducible refine Same.alloc ?_ ?_ _); rotate_left; simp <;> omega) | with_reducible apply Same.drew | with_reducible apply Same.drewN)), fun b hb => by have := j2 b hb; omega⟩
      case rest =>
        obtain ⟨bx, A5, c5, T0, rfl, rfl, z0, hbl, hbX, hGX, j0, j2⟩ := hcut
        have eg := grow_blk hbx.out hGX
        clear y0 yf0
        obtain ⟨y0, yf0⟩ := box1 eg
        have hgw : g < wc.heap.size := (Array.getElem?_eq_some_iff.1 eg).1
        have hlt1 : ∀ b ∈ S1, b < wr.heap.size := hH1.lt
        have hdx : ∀ b ∈ T0, b ∉ S1 := fun b hb hm => by have h1 := j2 b hb; have h2 := hlt1 b hm; omega
        have hGw2 := hGX.size
        have hgn : g ∉ S1 := fun hm => by have := hl1.out g hm; omega
        have hj64 : I64 (j : Int) := ⟨by omega, by omega⟩
        go_wp2_with (((refine wpList_append_hasf (L := ids.length + 1) (y := (j : Int)) rfl (.tmp 50) (.tmp 52) elInt flat_int (S := S1) ((hH1.gro hGX).gro (by (repeat (first | with_reducible exact Gro.refl _ | with_reducible exact Gro.refl_drew _ _ _ | with_reducible exact Gro.refl_drewN _ _ _ _ | assumption | with_reducible apply Gro.more | with_reducible apply Gro.alloc | with_reducible apply Gro.drew | with_reducible apply Gro.drewN)); done)) (ec := [.int .i64 (j : Int)]) (W1 := w) (B := 0) ⟨rfl, hj64.1, hj64.2⟩ rfl rfl rfl (by intro j u hu; simpa [go_sem] using hu) rfl (by omega) (by omega) ?_)); intro A7 c7 W7 S7 hon hH7 hS7; have hzz := hon.size; have eg7 := (hon.block g (by simp; omega) hgn).trans (grow_blk eg (by (repeat (first | with_reducible exact Gro.refl _ | with_reducible exact Gro.refl_drew _ _ _ | with_reducible exact Gro.refl_drewN _ _ _ _ | assumption | with_reducible apply Gro.more | with_reducible apply Gro.alloc | with_reducible apply Gro.drew | with_reducible apply Gro.drewN)); done)); have ez7 : W7.cell? ⟨bx, 0, none⟩ = some (.slice A5 u.Nodes.length c5) := (hon.cell (by simp; omega) (fun hm => by have h1 := hlt1 bx hm; have h2 := hbX; omega) 0).trans (cell_up (show Gro wc _ from (by (repeat (first | with_reducible exact Gro.refl _ | with_reducible exact Gro.refl_drew _ _ _ | with_reducible exact Gro.refl_drewN _ _ _ _ | assumption | with_reducible apply Gro.more | with_reducible apply Gro.alloc | with_reducible apply Gro.drew | with_reducible apply Gro.drewN)); done)) z0); obtain ⟨p0, pf0⟩ := box1 eg7; have hgl7 : g < W7.heap.size := (Array.getElem?_eq_some_iff.1 eg7).1; have hbl7 : bx < W7.heap.size := by (simp at hzz; omega))
        go_roundw
        case measure => simp [intOf]; omega
        case rel =>
          have h2 := set1 eg7 (.slice A5 u.Nodes.length c5)
          have hGW : Gro W2 W7 := hon.gro ((hG.trans hGX).trans (by (repeat (first | with_reducible exact Gro.refl _ | with_reducible exact Gro.refl_drew _ _ _ | with_reducible exact Gro.refl_drewN _ _ _ _ | assumption | with_reducible apply Gro.more | with_reducible apply Gro.alloc | with_reducible apply Gro.drew | with_reducible apply Gro.drewN)); done)) (fun b hb => by have := hl1.out b hb; omega)
          refine ⟨k + 1, u, ids ++ [(j : Int)], A5, c5, A7, c7, T0, S7, by rw [List.length_append]; rfl, by go_num, by omega, hic', h2.2.gro hGW (fun b hb => by simp at hb; omega), Lib.hid h2.1, ?_, ?_, Lib.hid ?_, Lib.hid ?_, Lib.hid ?_⟩
          · exact ((j0.gro (by (repeat (first | with_reducible exact Gro.refl _ | with_reducible exact Gro.refl_drew _ _ _ | with_reducible exact Gro.refl_drewN _ _ _ _ | assumption | with_reducible apply Gro.more | with_reducible apply Gro.alloc | with_reducible apply Gro.drew | with_reducible apply Gro.drewN)); done)).keep hon hdx).keep h2.2 (fun b hb hm => by have := j2 b hb; simp at hm; omega)
          · rw [List.length_append]
            exact hH7.keep h2.2 (fun b hb hm => by
              simp at hm
              subst hm
              rcases hS7 b hb with h | h
              · exact hgn h
              · simp at h; omega)
          · exact fun b hb => by have := j2 b hb; omega
          · intro b hb
            rcases hS7 b hb with h | h
            · exact hl1.out b h
            · simp at h; omega
          · intro b hb hm
            rcases hS7 b hm with h | h
            · exact hdx b hb h
            · have h3 := j0.lt b hb; simp at h; omega
    · obtain rfl : k = l.length := by omega
      have HB := Lib.hid (hic.bd (Nat.le_refl _))
      have HID := Lib.hid hic.len
      have hGW : Gro w wr := hGw.trans hG
      have hRi := hH1.read
      have hRn := hH0.read
      go_wp2_with (fail)
      have hidl2 : ids.length ≤ l.length := hidl
      have hidl3 : l.length ≤ ids.length := Nat.le_of_eq HID.out.symm
      have hgl0 : g < wr.heap.size := hgl
      clear hlt hidl
      generalize hV : wr = V at hGW hRi hRn hRw hbx hgl0 y0 yf0 ⊢
      clear hV hH0 hH1 hG hgl
      go_loopw [9] (fun a wr => ∃ (k : Nat), a = .int .i64 k ∧ k ≤ l.length ∧ Hid (Gro V wr)) (fun a _ => l.length - (intOf a).toNat)
      case atStart => exact ⟨0, rfl, by omega, Lib.hid (Gro.refl _)⟩
      case round =>
        obtain ⟨k, rfl, hk, hG⟩ := hrel
        obtain ⟨os, d, rfl⟩ := hG.out
        clear hG
        by_cases hlt : k < l.length
        · obtain ⟨gl, offl, s, As, cs, hAe, hglb, hs, hRs, hcs⟩ := lists_at hRw (k := k) hlt
          obtain ⟨gi, offi, z, hAi, hz, hci, hzb⟩ := ints_at hRi (k := k) (by omega)
          obtain ⟨hsk, hsl⟩ := HST.out s (List.mem_of_getElem? hs)
          obtain ⟨j, q1, q2, q3, q4, q5⟩ := hic.find hlt hs hsk.1
          have hzj : z = (j : Int) := by rw [hz] at q1; injection q1
          subst hzj
          have Q3 := Lib.hid q3
          have Q4 := Lib.hid q4
          obtain ⟨ft, hft⟩ : ∃ ft, findStack t (s.take 1) = ft := ⟨_, rfl⟩
          rw [hft] at q5
          have Q5 := Lib.hid hft
          subst hAe hAi
          have hci2 := gro_keeps hci os d
          have hcs2 := gro_keeps hcs os d
          have y02 := gro_keeps y0 os d
          have hki : (k : Int) < (l.length : Int) := by omega
          have hki2 : (k : Int) < (ids.length : Int) := by omega
          have hbj : ((j : Int) != (j : Int)) = false := by simp
          have hbl : ((s.length : Int) != (s.length : Int)) = false := by simp
          have hgib : gi < V.heap.size := World.block_lt_of_cell? _ _ hci
          have HS := Lib.hid hs
          have HZ := Lib.hid hz
          clear hs hz q1 q3 q4 hft
          go_wp2_with (fail)
          first | (go_region_held3 (fun w' => w'.cell? ⟨g, 0, none⟩ = some (.slice A0 t.Nodes.length c0) ∧ w'.cell? ⟨gl, offl + k, none⟩ = some (.slice As s.length cs) ∧ w'.cell? ⟨gi, offi + k, none⟩ = some (.int .i64 (j : Int))) ((repeat' apply And.intro) <;> (first | ((repeat (first | assumption | with_reducible refine gro_keeps ?_ _ _ | with_reducible refine alloc_keeps ?_ _ | with_reducible refine drew_keeps ?_)); done) | (simp [go_sem]; done))) (first
            | (go_at_call 24; (with_reducible refine (stackAt_i (t := t) (k := (j : Int)) (Ty.up _ hRn (by (repeat (first | with_reducible exact Gro.refl _ | with_reducible exact Gro.refl_drew _ _ _ | with_reducible exact Gro.refl_drewN _ _ _ _ | assumption | with_reducible apply Gro.more | with_reducible apply Gro.alloc | with_reducible apply Gro.drew | with_reducible apply Gro.drewN)); done)) (by omega)).mono ?_); rw [Q3.out]; rintro e w5 ⟨A5, c5, rfl, hF5, os5, d5, rfl⟩)
            | (go_at_call 23; (with_reducible refine (sameFrames_l (xs := s) (ys := s) (Ty.up _ hF5.read (by (repeat (first | with_reducible exact Gro.refl _ | with_reducible exact Gro.refl_drew _ _ _ | with_reducible exact Gro.refl_drewN _ _ _ _ | assumption | with_reducible apply Gro.more | with_reducible apply Gro.alloc | with_reducible apply Gro.drew | with_reducible apply Gro.drewN)); done)) (Ty.up _ hRs (by (repeat (first | with_reducible exact Gro.refl _ | with_reducible exact Gro.refl_drew _ _ _ | with_reducible exact Gro.refl_drewN _ _ _ _ | assumption | with_reducible apply Gro.more | with_reducible apply Gro.alloc | with_reducible apply Gro.drew | with_reducible apply Gro.drewN)); done))).mono ?_); rw [show decide (s = s) = true from decide_eq_true rfl]; rintro e w6 ⟨rfl, os6, d6, rfl⟩)
            | (go_at_call 25; (with_reducible refine (findStack_i (t := t) (l := s) (Ty.up _ hRn (by (repeat (first | with_reducible exact Gro.refl _ | with_reducible exact Gro.refl_drew _ _ _ | with_reducible exact Gro.refl_drewN _ _ _ _ | assumption | with_reducible apply Gro.more | with_reducible apply Gro.alloc | with_reducible apply Gro.drew | with_reducible apply Gro.drewN)); done)) (Ty.up _ hRs (by (repeat (first | with_reducible exact Gro.refl _ | with_reducible exact Gro.refl_drew _ _ _ | with_reducible exact Gro.refl_drewN _ _ _ _ | assumption | with_reducible apply Gro.more | with_reducible apply Gro.alloc | with_reducible apply Gro.drew | with_reducible apply Gro.drewN)); done)) (by omega)).mono ?_); rw [Q4.out]; rintro e w7 ⟨rfl, os7, d7, rfl⟩)
            | (go_at_call 26; (with_reducible refine (stackDepth_i (t := t) (k := (j : Int)) (Ty.up _ hRn (by (repeat (first | with_reducible exact Gro.refl _ | with_reducible exact Gro.refl_drew _ _ _ | with_reducible exact Gro.refl_drewN _ _ _ _ | assumption | with_reducible apply Gro.more | with_reducible apply Gro.alloc | with_reducible apply Gro.drew | with_reducible apply Gro.drewN)); done)) (by omega)).mono ?_); rw [Q3.out]; rintro e w8 ⟨rfl, os8, d8, rfl⟩)
            | fail)) | fail
          have hG9 : Gro V (gro (gro (gro (gro (gro V os d) os5 d5) os6 d6) os7 d7) os8 d8) := (by repeat (first | with_reducible exact Gro.refl _ | with_reducible exact Gro.refl_drew _ _ _ | with_reducible exact Gro.refl_drewN _ _ _ _ | assumption | with_reducible apply Gro.more | with_reducible apply Gro.alloc | with_reducible apply Gro.drew | with_reducible apply Gro.drewN))
          generalize (gro (gro (gro (gro (gro V os d) os5 d5) os6 d6) os7 d7) os8 d8) = V9 at hG9 ⊢
          clear hF5 hci2 hcs2 y02
          go_wp2_with (fail)
          go_loopw [10] (fun a wr => ∃ (i : Nat), a = .int .i64 i ∧ i ≤ k ∧ Hid (Gro V wr)) (fun a _ => k - (intOf a).toNat)
          case atStart => exact ⟨0, rfl, by omega, Lib.hid hG9⟩
          case round =>
            obtain ⟨i, rfl, hi, hG⟩ := hrel
            obtain ⟨os, d, rfl⟩ := hG.out
            clear hG
            by_cases hik : i < k
            · obtain ⟨gl', offl', s2, As2, cs2, hAe2, hglb2, hs2, hRs2, hcs2⟩ := lists_at hRw (k := i) (by omega)
              obtain ⟨gi', offi', z2, hAi2, hz2, hci2, hzb2⟩ := ints_at hRi (k := i) (by omega)
              injection hAe2 with hAe2
              injection hAe2 with e1 e2
              subst e1 e2
              injection hAi2 with hAi2
              injection hAi2 with e1 e2
              subst e1 e2
              have hsm := hic.same (i := i) (j := k) (by omega) hlt hs2 HS.out hz2 HZ.out
              have x1 := gro_keeps hci os d
              have x2 := gro_keeps hcs os d
              have x3 := gro_keeps hci2 os d
              have x4 := gro_keeps hcs2 os d
              have hik1 : (i : Int) < (l.length : Int) := by omega
              have hik2 : (i : Int) < (ids.length : Int) := by omega
              have hik3 : (i : Int) < (k : Int) := by omega
              obtain ⟨bq, hbq⟩ : ∃ bq, (z2 == (j : Int)) = bq := ⟨_, rfl⟩
              rw [hbq] at hsm
              have HSM := Lib.hid hsm.symm
              have hne : (bq != bq) = false := by cases bq <;> rfl
              clear hs2 hz2 hsm
              go_wp2_with (fail)
              first | (go_region_held3 (fun w' => w'.cell? ⟨gi, offi + i, none⟩ = some (.int .i64 z2) ∧ w'.cell? ⟨gi, offi + k, none⟩ = some (.int .i64 (j : Int)) ∧ w'.cell? ⟨gl, offl + i, none⟩ = some (.slice As2 s2.length cs2) ∧ w'.cell? ⟨gl, offl + k, none⟩ = some (.slice As s.length cs)) ((repeat' apply And.intro) <;> (first | ((repeat (first | assumption | with_reducible refine gro_keeps ?_ _ _ | with_reducible refine alloc_keeps ?_ _ | with_reducible refine drew_keeps ?_)); done) | (simp [go_sem]; done))) (first
                | (go_at_call 23; (with_reducible refine (sameFrames_l (xs := s2) (ys := s) (Ty.up _ hRs2 (by (repeat (first | with_reducible exact Gro.refl _ | with_reducible exact Gro.refl_drew _ _ _ | with_reducible exact Gro.refl_drewN _ _ _ _ | assumption | with_reducible apply Gro.more | with_reducible apply Gro.alloc | with_reducible apply Gro.drew | with_reducible apply Gro.drewN)); done)) (Ty.up _ hRs (by (repeat (first | with_reducible exact Gro.refl _ | with_reducible exact Gro.refl_drew _ _ _ | with_reducible exact Gro.refl_drewN _ _ _ _ | assumption | with_reducible apply Gro.more | with_reducible apply Gro.alloc | with_reducible apply Gro.drew | with_reducible apply Gro.drewN)); done))).mono ?_); rw [HSM.out]; rintro e w6 ⟨rfl, os6, d6, rfl⟩)
                | fail)) | fail
              go_wp2_with (fail)
              go_roundw
              case rel => exact ⟨i + 1, by go_num, by omega, Lib.hid (by repeat (first | with_reducible exact Gro.refl _ | with_reducible exact Gro.refl_drew _ _ _ | with_reducible exact Gro.refl_drewN _ _ _ _ | assumption | with_reducible apply Gro.more | with_reducible apply Gro.alloc | with_reducible apply Gro.drew | with_reducible apply Gro.drewN))⟩
              case measure => simp [intOf]; omega
            · obtain rfl : i = k := by omega
              have x2 := gro_keeps hcs os d
              have y02 := gro_keeps y0 os d
              have hs1 : 1 ≤ s.length := by
                cases s with
                | nil => exact absurd rfl hsk.1
                | cons => simp
              have hup := run_upto elFrame hRs (k := 1) hs1
              have hup1 := hup.1
              simp only [show ((1 : Nat) : Int) = 1 from rfl] at hup1
              have hN1 := Lib.hid (show 1 = (s.take 1).length from by rw [List.length_take]; omega)
              have hup2 := hup.2
              have hft0 : decide (ft < 0) = false := decide_eq_false (by omega)
              clear hup
              go_wp2_with (fail)
              first | (go_region_held3 (fun w' => w'.cell? ⟨g, 0, none⟩ = some (.slice A0 t.Nodes.length c0) ∧ w'.cell? ⟨gl, offl + i, none⟩ = some (.slice As s.length cs)) ((repeat' apply And.intro) <;> (first | ((repeat (first | assumption | with_reducible refine gro_keeps ?_ _ _ | with_reducible refine alloc_keeps ?_ _ | with_reducible refine drew_keeps ?_)); done) | (simp [go_sem]; done))) (first
                | (go_at_call 25; (with_reducible refine (findStackN_i (t := t) (l := s.take 1) hN1.out Q5.out (Ty.up _ hRn (by (repeat (first | with_reducible exact Gro.refl _ | with_reducible exact Gro.refl_drew _ _ _ | with_reducible exact Gro.refl_drewN _ _ _ _ | assumption | with_reducible apply Gro.more | with_reducible apply Gro.alloc | with_reducible apply Gro.drew | with_reducible apply Gro.drewN)); done)) (Ty.up _ hup2 (by (repeat (first | with_reducible exact Gro.refl _ | with_reducible exact Gro.refl_drew _ _ _ | with_reducible exact Gro.refl_drewN _ _ _ _ | assumption | with_reducible apply Gro.more | with_reducible apply Gro.alloc | with_reducible apply Gro.drew | with_reducible apply Gro.drewN)); done)) (by omega)).mono ?_); rintro e w6 ⟨rfl, os6, d6, rfl⟩)
                | fail)) | fail
              go_wp2_with (fail)
              go_roundw
              case rel => exact ⟨i + 1, by go_num, by omega, Lib.hid (by repeat (first | with_reducible exact Gro.refl _ | with_reducible exact Gro.refl_drew _ _ _ | with_reducible exact Gro.refl_drewN _ _ _ _ | assumption | with_reducible apply Gro.more | with_reducible apply Gro.alloc | with_reducible apply Gro.drew | with_reducible apply Gro.drewN))⟩
              case measure => simp [intOf]; omega
        · obtain rfl : k = l.length := by omega
          have y02 := gro_keeps y0 os d
          have HOK := Lib.hid hic.ok
          go_wp2_with (go_at_call 27; (with_reducible refine (stacksOk_i (t := t) (Ty.up _ hRn (by (repeat (first | with_reducible exact Gro.refl _ | with_reducible exact Gro.refl_drew _ _ _ | with_reducible exact Gro.refl_drewN _ _ _ _ | assumption | with_reducible apply Gro.more | with_reducible apply Gro.alloc | with_reducible apply Gro.drew | with_reducible apply Gro.drewN)); done))).mono ?_); rw [HOK.out]; rintro e w6 ⟨rfl, os6, d6, rfl⟩)
          go_ret
          exact ⟨rfl, (by repeat (first | with_reducible exact Gro.refl _ | with_reducible exact Gro.refl_drew _ _ _ | with_reducible exact Gro.refl_drewN _ _ _ _ | assumption | with_reducible apply Gro.more | with_reducible apply Gro.alloc | with_reducible apply Gro.drew | with_reducible apply Gro.drewN))⟩

set_option maxRecDepth 100000 in
theorem lifted (os : Os) (started : os.Started) (H : Type) (enc : TypeId × Value → H) :
    ReturnsInHanded {} Try.checked os 5 .any (Rows.fnInternedSpec.pre6 enc Try.prog Try.f5 Rows.fnInternedRow.domain false) (Rows.fnInternedSpec.post enc Try.prog Try.f5 false true false false) := by
  refine returnsInHanded_of_change (C := Try.checked) own started (by kernel_rfl) Try.func5
    (ChangeSpec.witness6 (enc := enc) (C := Try.checked) false ⟨#[], #[.slice none 0 0], []⟩ 8 (by kernel_rfl) (by kernel_rfl) (by kernel_rfl) (by kernel_rfl)) ?_
  intro W base args ds gs before hval0 hW hcnd _
  have hval : ∀ (j : Nat) t v, Try.f5.params[j]? = some t → args[j]? = some v → Value.okWide Try.prog W .any base t v := hval0
  have hW' := hW
  obtain ⟨p, q, hA0, hV, rfl, hfz, hnd⟩ := hW
  have hA : DataW.TrodAll enc Try.prog W 0 (fun _ => true) true Try.f5.params.toList args.toList ds p := hA0
  rw [Try.params5] at hA hval
  obtain ⟨v0, vs0, d0, ds0, p0, q0, hargs, rfl, rfl, h0, r0⟩ := trodAll_cons hA
  obtain ⟨rfl, rfl, rfl⟩ := trodAll_nil r0
  obtain rfl : args = #[v0] := by cases args; simp_all
  obtain ⟨rfl, rfl⟩ := trodVars_none hV
  have k0 := h0
  have lt0 : ∀ x ∈ p0, x.block < W.heap.size := by obtain ⟨m, hm⟩ := k0; exact DataW.trod_lt m _ _ _ hm
  obtain ⟨a0, w0⟩ := arg_open (opens_sl (e' := 5) Try.underlying33 (by kernel_rfl) (by decide) (opens_byte Try.underlying5)) h0
  rw [arg_slice Try.underlying33 (hval 0 33 v0 rfl rfl)] at w0
  clear hA0 hval0
  refine (walk W v0 a0 w0).mono fun e W' ⟨he, hgro⟩ => ?_
  subst he
  have bel := hgro.below
  exact ⟨_, rfl, _, _, _, [], _, [], hW', trodAll_mk1 (shut_bool Try.underlying4 _), (trodAll_cons_mk (Below.trod laidOut (by kernel_rfl) (of_decide_eq_true (by kernel_rfl)) k0 bel lt0) trodAll_mk0), rfl, bel.frame _, fun h => by cases h⟩
theorem over : Rows.fnInternedRow.holds Try.pinned (OpenSpec.ofChange Rows.fnInternedSpec) :=
  OpenClaim.holds_of_wide 5 Try.f5 rfl rfl rfl rfl rfl rfl rfl ⟨rfl, rfl, rfl, rfl, rfl⟩ rfl rfl rfl rfl rfl (by kernel_rfl) Try.func5 (by kernel_rfl)
    (of_decide_eq_true (by kernel_rfl)) (by unfold Func.isWrapper; first | (rw [if_pos (by decide +kernel)]; kernel_rfl) | (rw [if_neg (by decide +kernel)]; exact ⟨rfl, rfl⟩))
    (fun os started H enc _ => lifted os started H enc)
/-- THE STATEMENT -/
theorem proved : Rows.FnInternedSaid := over
#print axioms proved
end Go.Proofs.Ytdlkoffandhclaa.fnInterned
