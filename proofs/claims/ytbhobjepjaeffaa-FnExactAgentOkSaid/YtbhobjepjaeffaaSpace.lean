/-
  SPACE: the contracts of isEntry and of SpaceOk of the program.
-/
import Derived.Test.YtbhobjepjaeffaaImage2
import Derived.Deep.QuietTactic
import Derived.Deep.CutRange
set_option linter.unusedVariables false
set_option linter.unusedSimpArgs false
namespace Go.Proofs.Ytbhobjepjaeffaa
open Go.RowKit
theorem box3 {W : World} {g : Nat} {a b c : Value} {e : TypeId} (h : W.heap[g]? = some (.cells #[a, b, c] e (0, 0))) :
    W.cell? ⟨g, 0, none⟩ = some a ∧ W.cell? ⟨g, 1, none⟩ = some b ∧ W.cell? ⟨g, 2, none⟩ = some c ∧ (∀ j, W.frozen? ⟨g, j, none⟩ = false) ∧ g < W.heap.size := by
  refine ⟨?_, ?_, ?_, fun j => by simp [World.frozen?, h], (Array.getElem?_eq_some_iff.1 h).1⟩
  all_goals
    rw [cell_of_row W g _ _ _ (0, 0) h]
    rfl
theorem zip_at {α β : Type} {xs : List α} {ys : List β} {k : Nat} {x : α} {y : β} (hx : xs[k]? = some x) (hy : ys[k]? = some y) (f : α × β → Bool) : ((xs.zip ys).drop k).any f = (f (x, y) || ((xs.zip ys).drop (k + 1)).any f) := by
  have h : (xs.zip ys)[k]? = some (x, y) := by
    rw [List.getElem?_zip_eq_some]
    exact ⟨hx, hy⟩
  obtain ⟨hl, he⟩ := List.getElem?_eq_some_iff.1 h
  rw [List.drop_eq_getElem_cons hl, he, List.any_cons]
theorem any_at {α : Type} {xs : List α} {k : Nat} {x : α} (hx : xs[k]? = some x) (f : α → Bool) : (xs.drop k).any f = (f x || (xs.drop (k + 1)).any f) := by
  obtain ⟨hl, he⟩ := List.getElem?_eq_some_iff.1 hx
  rw [List.drop_eq_getElem_cons hl, he, List.any_cons]
set_option maxRecDepth 100000 in
set_option maxHeartbeats 4000000 in
theorem isEntry_i {imgs : List DImage} {bases es : List Int} {e : Int} {w : World} {A0 A1 A2 : Option Addr} {c0 c1 c2 : Nat} (h0 : (tImage.sl 96).R w w.heap.size [.slice A0 imgs.length c0] imgs) (h1 : (intT.sl 3).R w w.heap.size [.slice A1 bases.length c1] bases)
    (hl : imgs.length = bases.length) (hst : ∀ x ∈ imgs, ∀ y ∈ x.Symbols, btw y.Start 0 1000000 = true) (hbs : ∀ b ∈ bases, btw b 1 1000000 = true) (he : I64 e) :
    Calls Try.prog 86 #[.agg #[.slice A0 imgs.length c0, .slice A1 bases.length c1, .slice A2 es.length c2], .int .i64 e] w fun r w' => r = .returned (.bool (isEnt ⟨imgs, bases, es⟩ e)) ∧ Gro w w' := by
  obtain ⟨_, _, hx', hxl, hcm⟩ := sl_at h0
  injection hx' with e1 e2 e3
  subst e1 e3
  clear e2
  obtain ⟨_, _, hx', hyl, hdm⟩ := sl_at h1
  injection hx' with e1 e2 e3
  subst e1 e3
  clear e2
  obtain ⟨he1, he2⟩ := he
  have HL := Lib.hid (Nat.le_of_eq hl)
  have hl2 := Nat.le_of_eq hl
  clear hl
  go_enter Try.func86, Try.ntmps86
  go_wp2_with (fail)
  have hG0 : Gro w (w.alloc (.cells #[.slice A0 imgs.length c0, .slice A1 bases.length c1, .slice A2 es.length c2] 33)) := (by repeat (first | with_reducible exact Gro.refl _ | with_reducible exact Gro.refl_drew _ _ _ | with_reducible exact Gro.refl_drewN _ _ _ _ | assumption | with_reducible apply Gro.more | with_reducible apply Gro.alloc | with_reducible apply Gro.drew | with_reducible apply Gro.drewN))
  have eb := heap_alloc_new w (.cells #[.slice A0 imgs.length c0, .slice A1 bases.length c1, .slice A2 es.length c2] 33)
  have k0 := Ty.up _ h0 hG0
  have k1 := Ty.up _ h1 hG0
  obtain ⟨g0, hg0⟩ : ∃ g0, w.heap.size = g0 := ⟨_, rfl⟩
  rw [hg0] at eb ⊢
  generalize w.alloc (.cells #[.slice A0 imgs.length c0, .slice A1 bases.length c1, .slice A2 es.length c2] 33) = Y at hG0 eb k0 k1 ⊢
  clear h0 h1 hg0
  obtain ⟨y0, y1, _, _, yl⟩ := box3 eb
  go_loopw [12] (fun x wr => ∃ k : Nat, x = .int .i64 k ∧ k ≤ imgs.length ∧ Hid (((imgs.zip bases).drop k).any (fun p => p.1.Symbols.any fun x => decide (p.2 + x.Start = e)) = isEnt ⟨imgs, bases, es⟩ e) ∧ Hid (Gro Y wr)) (fun x _ => imgs.length - (intOf x).toNat)
  case atStart => exact ⟨0, rfl, Nat.zero_le _, Lib.hid rfl, Lib.hid (Gro.refl _)⟩
  case round =>
    obtain ⟨k, rfl, hk, hE, hG⟩ := hrel
    obtain ⟨os, d, rfl⟩ := hG.out
    clear hG
    by_cases hlt : k < imgs.length
    · obtain ⟨g, off, x, A, c, rfl, hgb, hxk, hx0, hx1, bx0, bx1⟩ := atImage k0 hlt
      obtain ⟨gb, offb, b, rfl, hbk, hcb, bb1, bb2⟩ := ints_at k1 (k := k) (by omega)
      have hbb := btw_iff.1 (hbs b (List.mem_of_getElem? hbk))
      have hsy := hst x (List.mem_of_getElem? hxk)
      have hz := zip_at hxk hbk (fun p => p.1.Symbols.any fun x => decide (p.2 + x.Start = e))
      rw [hE.out] at hz
      simp only at hz
      have HZ := Lib.hid hz
      have hc0 := gro_keeps hx0 os d
      have hc1 := gro_keeps hx1 os d
      have hki : (k : Int) < (imgs.length : Int) := by omega
      have hki2 : (k : Int) < (bases.length : Int) := by omega
      obtain ⟨code, syms⟩ := x
      simp only at hc0 hc1 bx0 bx1 hsy HZ hx0 hx1
      obtain ⟨_, _, hx', hsl, hsm⟩ := sl_at bx1
      injection hx' with e1 e2 e3
      subst e1 e3
      clear e2 hz hE hxk
      go_wp2_with (fail)
      have hGV : Gro Y ((gro Y os d).alloc (.cells #[.string code, .slice A syms.length c] 96)) := (by repeat (first | with_reducible exact Gro.refl _ | with_reducible exact Gro.refl_drew _ _ _ | with_reducible exact Gro.refl_drewN _ _ _ _ | assumption | with_reducible apply Gro.more | with_reducible apply Gro.alloc | with_reducible apply Gro.drew | with_reducible apply Gro.drewN))
      have ei := heap_alloc_new (gro Y os d) (.cells #[.string code, .slice A syms.length c] 96)
      obtain ⟨gi, hgi⟩ : ∃ gi, (gro Y os d).heap.size = gi := ⟨_, rfl⟩
      rw [hgi] at ei
      rw [gro_size] at hgi
      rw [hgi]
      generalize (gro Y os d).alloc (.cells #[.string code, .slice A syms.length c] 96) = V at hGV ei ⊢
      obtain ⟨v0, v1, _, _, vl⟩ := box2 ei
      have u1 := cell_up hGV y1
      have ul : g0 < V.heap.size := Nat.lt_of_lt_of_le yl hGV.size
      have ub := cell_up hGV hcb
      have ubl := World.block_lt_of_cell? _ _ ub
      simp only at ubl
      have ks := Ty.up _ bx1 hGV
      clear hc0 hc1 hx0 hx1 hgi bx1 hcb
      go_loopw [20] (fun x we => ∃ m : Nat, x = .int .i64 m ∧ m ≤ syms.length ∧ Hid ((syms.drop m).any (fun x => decide (b + x.Start = e)) = syms.any (fun x => decide (b + x.Start = e))) ∧ Hid (Gro V we)) (fun x _ => syms.length - (intOf x).toNat)
      case atStart => exact ⟨0, rfl, Nat.zero_le _, Lib.hid rfl, Lib.hid (Gro.refl _)⟩
      case round =>
        obtain ⟨m, rfl, hm, hI, hG⟩ := hrel
        obtain ⟨os2, d2, rfl⟩ := hG.out
        clear hG
        by_cases hml : m < syms.length
        · obtain ⟨g2, off2, y, rfl, hgb2, hyk, hy0, hy1, hy2, by0, by1, by2⟩ := atSymbol ks hml
          have hyb := btw_iff.1 (hsy y (List.mem_of_getElem? hyk))
          have ha := any_at hyk (fun x => decide (b + x.Start = e))
          rw [hI.out] at ha
          have n0 := gro_keeps hy0 os2 d2
          have n1 := gro_keeps hy1 os2 d2
          have n2 := gro_keeps hy2 os2 d2
          have u1' := gro_keeps u1 os2 d2
          have ub' := gro_keeps ub os2 d2
          have hmi : (m : Int) < (syms.length : Int) := by omega
          have w1 : IntKind.i64.wrap (b + y.Start) = b + y.Start := IntWalk.i64_in _ (by omega)
          by_cases hq : b + y.Start = e
          · have HQ := Lib.hid (show isEnt ⟨imgs, bases, es⟩ e = true from by rw [HZ.out, ha]; simp [hq])
            have hqb : (b + y.Start == e) = true := by simp [hq]
            clear ha hq hyk hI
            go_wp2_with (fail)
            go_quiet (fail)
            go_wp2_with (fail)
            go_ret
            exact ⟨ret_bool HQ.out.symm, (hG0.trans hGV).trans (by (repeat (first | with_reducible exact Gro.refl _ | with_reducible exact Gro.refl_drew _ _ _ | with_reducible exact Gro.refl_drewN _ _ _ _ | assumption | with_reducible apply Gro.more | with_reducible apply Gro.alloc | with_reducible apply Gro.drew | with_reducible apply Gro.drewN)); done)⟩
          · have hqb : (b + y.Start == e) = false := by simp [hq]
            have HA := Lib.hid (show (syms.drop (m + 1)).any (fun x => decide (b + x.Start = e)) = syms.any (fun x => decide (b + x.Start = e)) from by rw [ha]; simp [hq])
            clear ha hq hyk hI
            go_wp2_with (fail)
            go_quiet (fail)
            go_wp2_with (fail)
            go_roundw
            case measure => (simp [intOf]; try omega)
            case rel => exact ⟨m + 1, by go_num, by omega, HA, Lib.hid (by repeat (first | with_reducible exact Gro.refl _ | with_reducible exact Gro.refl_drew _ _ _ | with_reducible exact Gro.refl_drewN _ _ _ _ | assumption | with_reducible apply Gro.more | with_reducible apply Gro.alloc | with_reducible apply Gro.drew | with_reducible apply Gro.drewN))⟩
        · obtain rfl : m = syms.length := by omega
          have HF := Lib.hid (show ((imgs.zip bases).drop (k + 1)).any (fun p => p.1.Symbols.any fun x => decide (p.2 + x.Start = e)) = isEnt ⟨imgs, bases, es⟩ e from by
            have := hI.out
            rw [List.drop_length] at this
            rw [HZ.out, ← this]
            simp)
          clear hI
          go_wp2_with (fail)
          go_roundw
          case measure => (simp [intOf]; try omega)
          case rel => exact ⟨k + 1, by go_num, by omega, HF, Lib.hid (hGV.trans (by (repeat (first | with_reducible exact Gro.refl _ | with_reducible exact Gro.refl_drew _ _ _ | with_reducible exact Gro.refl_drewN _ _ _ _ | assumption | with_reducible apply Gro.more | with_reducible apply Gro.alloc | with_reducible apply Gro.drew | with_reducible apply Gro.drewN)); done))⟩
    · obtain rfl : k = imgs.length := by omega
      have HF := Lib.hid (show isEnt ⟨imgs, bases, es⟩ e = false from by
        rw [← hE.out, List.drop_eq_nil_of_le (by rw [List.length_zip]; omega)]
        rfl)
      clear hE
      go_wp2_with (fail)
      go_ret
      exact ⟨ret_bool HF.out.symm, hG0.trans (by (repeat (first | with_reducible exact Gro.refl _ | with_reducible exact Gro.refl_drew _ _ _ | with_reducible exact Gro.refl_drewN _ _ _ _ | assumption | with_reducible apply Gro.more | with_reducible apply Gro.alloc | with_reducible apply Gro.drew | with_reducible apply Gro.drewN)); done)⟩
theorem starts_ok {i : DImage} (h : imageOk i = true) : ∀ y ∈ i.Symbols, btw y.Start 0 1000000 = true := by
  simp only [imageOk, Bool.and_eq_true, decide_eq_true_eq] at h
  intro y hy
  obtain ⟨_, h1, h2⟩ := sym_find h.1 i.Symbols [] 0 0 h.2 y hy
  exact btw_mk (by omega) (by omega)
theorem len_two {α : Type} {l : List α} (h : l.length = 2) : ∃ a b, l = [a, b] := by
  match l, h with
  | [a, b], _ => exact ⟨a, b, rfl⟩
theorem image_two {e : TypeId} {w : World} {B : Nat} {A0 : Option Addr} {n c0 : Nat} {i j : DImage} (h : (tImage.sl e).R w B [.slice A0 n c0] [i, j]) : ∃ g off A c A' c', A0 = some ⟨g, off, none⟩ ∧ g < B ∧ w.cell? ⟨g, off, none⟩ = some (.string i.Code) ∧ w.cell? ⟨g, off + 1, none⟩ = some (.slice A i.Symbols.length c) ∧ w.cell? ⟨g, off + 2, none⟩ = some (.string j.Code) ∧ w.cell? ⟨g, off + 2 + 1, none⟩ = some (.slice A' j.Symbols.length c') ∧
    i.Code.size ≤ 9223372036854775807 ∧ j.Code.size ≤ 9223372036854775807 ∧ (tSymbol.sl 118).R w B [.slice A i.Symbols.length c] i.Symbols ∧ (tSymbol.sl 118).R w B [.slice A' j.Symbols.length c'] j.Symbols := by
  obtain ⟨g, off, x, A, c, rfl, hgb, hxk, hx0, hx1, bx0, bx1⟩ := atImage h (k := 0) (by simp)
  obtain ⟨g', off', y, A', c', he, hgb', hyk, hy0, hy1, by0, by1⟩ := atImage h (k := 1) (by simp)
  injection he with he
  injection he with e1 e2
  subst e1 e2
  simp only [List.getElem?_cons_zero, List.getElem?_cons_succ, Option.some.injEq] at hxk hyk
  subst hxk hyk
  simp only [Nat.zero_mul, Nat.one_mul, Nat.add_zero] at hx0 hx1 hy0 hy1
  exact ⟨g, off, A, c, A', c', rfl, hgb, hx0, hx1, hy0, hy1, bx0, by0, bx1, by1⟩
theorem ints_two {e : TypeId} {w : World} {B : Nat} {A0 : Option Addr} {n c0 : Nat} {a b : Int} (h : (intT.sl e).R w B [.slice A0 n c0] [a, b]) : ∃ g off, A0 = some ⟨g, off, none⟩ ∧ w.cell? ⟨g, off, none⟩ = some (.int .i64 a) ∧ w.cell? ⟨g, off + 1, none⟩ = some (.int .i64 b) ∧ I64 a ∧ I64 b := by
  obtain ⟨g, off, x, rfl, hxk, hx0, bx1, bx2⟩ := ints_at h (k := 0) (by simp)
  obtain ⟨g', off', y, he, hyk, hy0, by1, by2⟩ := ints_at h (k := 1) (by simp)
  injection he with he
  injection he with e1 e2
  subst e1 e2
  simp only [List.getElem?_cons_zero, List.getElem?_cons_succ, Option.some.injEq] at hxk hyk
  subst hxk hyk
  simp only [Nat.add_zero] at hx0
  exact ⟨g, off, rfl, hx0, hy0, ⟨bx1, bx2⟩, ⟨by1, by2⟩⟩
def ovl (i j : DImage) (a b : Int) : Bool := decide (0 < i.Code.size) && decide (0 < j.Code.size) && decide (a < b + j.Code.size) && decide (b < a + i.Code.size)
theorem space_two {i j : DImage} {a b : Int} {es : List Int} : spaceOk ⟨[i, j], [a, b], es⟩ = (btw es.length 1 6 && (imageOk i && imageOk j) && (btw a 1 1000000 && btw b 1 1000000) && !ovl i j a b && es.all (isEnt ⟨[i, j], [a, b], es⟩)) := by
  simp [spaceOk, overlap, ovl]
theorem space_img {s : DSpace} (h : s.Images.length ≠ 2) : spaceOk s = false := by
  unfold spaceOk
  rw [decide_eq_false h]
  simp
theorem space_bas {s : DSpace} (h : s.Bases.length ≠ 2) : spaceOk s = false := by
  unfold spaceOk
  rw [decide_eq_false h]
  simp
theorem space_ent {s : DSpace} (h : btw s.Entries.length 1 6 = false) : spaceOk s = false := by
  unfold spaceOk
  rw [h]
  simp
theorem isEnt_es (imgs : List DImage) (bases es es' : List Int) (e : Int) : isEnt ⟨imgs, bases, es⟩ e = isEnt ⟨imgs, bases, es'⟩ e := rfl
theorem isEntry2_i {i j : DImage} {a b : Int} {es : List Int} {e : Int} {w : World} {A0 A1 A2 : Option Addr} {c0 c1 c2 : Nat} (h0 : (tImage.sl 96).R w w.heap.size [.slice A0 2 c0] [i, j]) (h1 : (intT.sl 3).R w w.heap.size [.slice A1 2 c1] [a, b])
    (hi : imageOk i = true) (hj : imageOk j = true) (ha : btw a 1 1000000 = true) (hb : btw b 1 1000000 = true) (he : I64 e) :
    Calls Try.prog 86 #[.agg #[.slice A0 2 c0, .slice A1 2 c1, .slice A2 es.length c2], .int .i64 e] w fun r w' => r = .returned (.bool (isEnt ⟨[i, j], [a, b], es⟩ e)) ∧ Gro w w' :=
  isEntry_i (imgs := [i, j]) (bases := [a, b]) h0 h1 rfl (fun x hx => by
    simp only [List.mem_cons, List.not_mem_nil, or_false] at hx
    rcases hx with rfl | rfl
    · exact starts_ok hi
    · exact starts_ok hj) (fun x hx => by
    simp only [List.mem_cons, List.not_mem_nil, or_false] at hx
    rcases hx with rfl | rfl
    · exact ha
    · exact hb) he
theorem all_at {α : Type} {xs : List α} {k : Nat} {x : α} (hx : xs[k]? = some x) (f : α → Bool) : (xs.drop k).all f = (f x && (xs.drop (k + 1)).all f) := by
  obtain ⟨hl, he⟩ := List.getElem?_eq_some_iff.1 hx
  rw [List.drop_eq_getElem_cons hl, he, List.all_cons]
set_option maxRecDepth 100000 in
set_option maxHeartbeats 8000000 in
theorem spaceOk_i {s : DSpace} {w : World} {A0 A1 A2 : Option Addr} {c0 c1 c2 : Nat} (h0 : (tImage.sl 96).R w w.heap.size [.slice A0 s.Images.length c0] s.Images) (h1 : (intT.sl 3).R w w.heap.size [.slice A1 s.Bases.length c1] s.Bases)
    (h2 : (intT.sl 3).R w w.heap.size [.slice A2 s.Entries.length c2] s.Entries) (hs : szSpace s ≤ 1099511627776) :
    Calls Try.prog 47 #[.agg #[.slice A0 s.Images.length c0, .slice A1 s.Bases.length c1, .slice A2 s.Entries.length c2]] w fun r w' => r = .returned (.bool (spaceOk s)) ∧ Gro w w' := by
  by_cases hi : s.Images.length = 2
  case neg =>
    have HQ := Lib.hid (space_img hi)
    have p1 : ((s.Images.length : Int) != 2) = true := by simp; omega
    clear hi
    go_enter Try.func47, Try.ntmps47
    go_wp2_with (fail)
    go_ret
    exact ⟨ret_bool HQ.out.symm, (by repeat (first | with_reducible exact Gro.refl _ | with_reducible exact Gro.refl_drew _ _ _ | with_reducible exact Gro.refl_drewN _ _ _ _ | assumption | with_reducible apply Gro.more | with_reducible apply Gro.alloc | with_reducible apply Gro.drew | with_reducible apply Gro.drewN))⟩
  by_cases hj : s.Bases.length = 2
  case neg =>
    have HQ := Lib.hid (space_bas hj)
    have p1 : ((s.Images.length : Int) != 2) = false := by simp; omega
    have p2 : ((s.Bases.length : Int) != 2) = true := by simp; omega
    clear hi hj
    go_enter Try.func47, Try.ntmps47
    go_wp2_with (fail)
    go_ret
    exact ⟨ret_bool HQ.out.symm, (by repeat (first | with_reducible exact Gro.refl _ | with_reducible exact Gro.refl_drew _ _ _ | with_reducible exact Gro.refl_drewN _ _ _ _ | assumption | with_reducible apply Gro.more | with_reducible apply Gro.alloc | with_reducible apply Gro.drew | with_reducible apply Gro.drewN))⟩
  cases he : btw s.Entries.length 1 6 with
  | false =>
    have HQ := Lib.hid (space_ent he)
    have HE := Lib.hid he
    have p1 : ((s.Images.length : Int) != 2) = false := by simp; omega
    have p2 : ((s.Bases.length : Int) != 2) = false := by simp; omega
    clear hi hj he
    go_enter Try.func47, Try.ntmps47
    go_wp2_with (go_at_call 48; (with_reducible refine (in_i _ _ _ _).mono ?_); rw [HE.out]; rintro e w1 ⟨rfl, rfl⟩)
    go_ret
    exact ⟨ret_bool HQ.out.symm, (by repeat (first | with_reducible exact Gro.refl _ | with_reducible exact Gro.refl_drew _ _ _ | with_reducible exact Gro.refl_drewN _ _ _ _ | assumption | with_reducible apply Gro.more | with_reducible apply Gro.alloc | with_reducible apply Gro.drew | with_reducible apply Gro.drewN))⟩
  | true =>
  obtain ⟨imgs, bases, es⟩ := s
  simp only at h0 h1 h2 hi hj he hs ⊢
  have HE := Lib.hid he
  have hel := btw_iff.1 he
  obtain ⟨i, j, rfl⟩ := len_two hi
  obtain ⟨a, b, rfl⟩ := len_two hj
  have HS := Lib.hid (@space_two i j a b es)
  rw [he] at HS
  clear hi hj he
  obtain ⟨_, _, hx', hzl, hzm⟩ := sl_at h2
  injection hx' with e1 e2 e3
  subst e1 e3
  clear e2
  have hsz : szImage i + szImage j + 2 + 2 + es.length ≤ 1099511627776 := by simp [szSpace, szL] at hs; omega
  have hci : i.Code.size ≤ 1099511627776 := by unfold szImage at hsz; omega
  have hcj : j.Code.size ≤ 1099511627776 := by unfold szImage at hsz; omega
  have hsi : i.Symbols.length ≤ 1099511627776 := by unfold szImage at hsz; have := szL_len szSymbol i.Symbols; omega
  have hsj : j.Symbols.length ≤ 1099511627776 := by unfold szImage at hsz; have := szL_len szSymbol j.Symbols; omega
  clear hsz hs
  simp only [List.length_cons, List.length_nil] at h0 h1 ⊢
  go_enter Try.func47, Try.ntmps47
  go_wp2_with (go_at_call 48; (with_reducible refine (in_i _ _ _ _).mono ?_); rw [HE.out]; rintro e w1 ⟨rfl, rfl⟩)
  have hG0 : Gro w (w.alloc (.cells #[.slice A0 2 c0, .slice A1 2 c1, .slice A2 es.length c2] 33)) := (by repeat (first | with_reducible exact Gro.refl _ | with_reducible exact Gro.refl_drew _ _ _ | with_reducible exact Gro.refl_drewN _ _ _ _ | assumption | with_reducible apply Gro.more | with_reducible apply Gro.alloc | with_reducible apply Gro.drew | with_reducible apply Gro.drewN))
  have eb := heap_alloc_new w (.cells #[.slice A0 2 c0, .slice A1 2 c1, .slice A2 es.length c2] 33)
  have k0 := Ty.up _ h0 hG0
  have k1 := Ty.up _ h1 hG0
  have k2 := Ty.up _ h2 hG0
  obtain ⟨g0, hg0⟩ : ∃ g0, w.heap.size = g0 := ⟨_, rfl⟩
  rw [hg0] at eb ⊢
  generalize w.alloc (.cells #[.slice A0 2 c0, .slice A1 2 c1, .slice A2 es.length c2] 33) = Y at hG0 eb k0 k1 k2 ⊢
  clear h0 h1 h2 hg0
  obtain ⟨y0, y1, y2, _, yl⟩ := box3 eb
  obtain ⟨gi, oi, Ai, ci, Aj, cj, rfl, hgi, i0, i1, j0, j1, bi0, bj0, bi1, bj1⟩ := image_two k0
  obtain ⟨gb, ob, rfl, b0, b1, ⟨ba1, ba2⟩, ⟨bb1, bb2⟩⟩ := ints_two k1
  have hgb := World.block_lt_of_cell? _ _ b0
  simp only at hgb
  go_loopw [28] (fun x wr => ((x = .int .i64 0) ∨ (x = .int .i64 1 ∧ imageOk i = true ∧ btw a 1 1000000 = true) ∨ (x = .int .i64 2 ∧ imageOk i = true ∧ btw a 1 1000000 = true ∧ imageOk j = true ∧ btw b 1 1000000 = true)) ∧ Hid (Gro Y wr)) (fun x _ => 2 - (intOf x).toNat)
  case atStart => exact ⟨.inl rfl, Lib.hid (Gro.refl _)⟩
  case round =>
    obtain ⟨hcase, hG⟩ := hrel
    obtain ⟨os, d, rfl⟩ := hG.out
    clear hG
    rcases hcase with rfl | ⟨rfl, hq1, hq2⟩ | ⟨rfl, hq1, hq2, hq3, hq4⟩
    · have d0 := gro_keeps i0 os d
      have d1 := gro_keeps i1 os d
      have d2 := gro_keeps b0 os d
      have z0 := gro_keeps y0 os d
      have z1 := gro_keeps y1 os d
      obtain ⟨ik, hk⟩ : ∃ ik, imageOk i = ik := ⟨_, rfl⟩
      cases ik with
      | false =>
        have HK := Lib.hid hk
        have HQ := Lib.hid (show spaceOk ⟨[i, j], [a, b], es⟩ = false from by rw [HS.out, hk]; simp)
        clear hk
        go_wp2_with (go_at_call 85; (with_reducible refine (imageOk_i (i := i) (Ty.up _ bi1 (by repeat (first | with_reducible exact Gro.refl _ | with_reducible exact Gro.refl_drew _ _ _ | with_reducible exact Gro.refl_drewN _ _ _ _ | assumption | with_reducible apply Gro.more | with_reducible apply Gro.alloc | with_reducible apply Gro.drew | with_reducible apply Gro.drewN))) hci hsi).mono ?_); rw [HK.out]; rintro e w1 ⟨rfl, os1, d1, rfl⟩)
        go_ret
        exact ⟨ret_bool HQ.out.symm, hG0.trans (by (repeat (first | with_reducible exact Gro.refl _ | with_reducible exact Gro.refl_drew _ _ _ | with_reducible exact Gro.refl_drewN _ _ _ _ | assumption | with_reducible apply Gro.more | with_reducible apply Gro.alloc | with_reducible apply Gro.drew | with_reducible apply Gro.drewN)); done)⟩
      | true =>
        obtain ⟨bk, hb⟩ : ∃ bk, btw a 1 1000000 = bk := ⟨_, rfl⟩
        cases bk with
        | false =>
          have HK := Lib.hid hk
          have HB := Lib.hid hb
          have HQ := Lib.hid (show spaceOk ⟨[i, j], [a, b], es⟩ = false from by rw [HS.out, hb]; simp)
          clear hk hb
          go_wp2_with (first
            | (go_at_call 85; (with_reducible refine (imageOk_i (i := i) (Ty.up _ bi1 (by repeat (first | with_reducible exact Gro.refl _ | with_reducible exact Gro.refl_drew _ _ _ | with_reducible exact Gro.refl_drewN _ _ _ _ | assumption | with_reducible apply Gro.more | with_reducible apply Gro.alloc | with_reducible apply Gro.drew | with_reducible apply Gro.drewN))) hci hsi).mono ?_); rw [HK.out]; rintro e w1 ⟨rfl, os1, d1, rfl⟩)
            | (go_at_call 48; (with_reducible refine (in_i _ _ _ _).mono ?_); rw [HB.out]; rintro e w1 ⟨rfl, rfl⟩))
          go_ret
          exact ⟨ret_bool HQ.out.symm, hG0.trans (by (repeat (first | with_reducible exact Gro.refl _ | with_reducible exact Gro.refl_drew _ _ _ | with_reducible exact Gro.refl_drewN _ _ _ _ | assumption | with_reducible apply Gro.more | with_reducible apply Gro.alloc | with_reducible apply Gro.drew | with_reducible apply Gro.drewN)); done)⟩
        | true =>
          have HK := Lib.hid hk
          have HB := Lib.hid hb
          clear hk hb
          go_wp2_with (first
            | (go_at_call 85; (with_reducible refine (imageOk_i (i := i) (Ty.up _ bi1 (by repeat (first | with_reducible exact Gro.refl _ | with_reducible exact Gro.refl_drew _ _ _ | with_reducible exact Gro.refl_drewN _ _ _ _ | assumption | with_reducible apply Gro.more | with_reducible apply Gro.alloc | with_reducible apply Gro.drew | with_reducible apply Gro.drewN))) hci hsi).mono ?_); rw [HK.out]; rintro e w1 ⟨rfl, os1, d1, rfl⟩)
            | (go_at_call 48; (with_reducible refine (in_i _ _ _ _).mono ?_); rw [HB.out]; rintro e w1 ⟨rfl, rfl⟩))
          go_roundw
          case measure => (simp [intOf]; try omega)
          case rel => exact ⟨.inr (.inl ⟨rfl, HK.out, HB.out⟩), Lib.hid (by repeat (first | with_reducible exact Gro.refl _ | with_reducible exact Gro.refl_drew _ _ _ | with_reducible exact Gro.refl_drewN _ _ _ _ | assumption | with_reducible apply Gro.more | with_reducible apply Gro.alloc | with_reducible apply Gro.drew | with_reducible apply Gro.drewN))⟩
    · have d0 := gro_keeps j0 os d
      have d1 := gro_keeps j1 os d
      have d2 := gro_keeps b1 os d
      have z0 := gro_keeps y0 os d
      have z1 := gro_keeps y1 os d
      obtain ⟨ik, hk⟩ : ∃ ik, imageOk j = ik := ⟨_, rfl⟩
      cases ik with
      | false =>
        have HK := Lib.hid hk
        have HQ := Lib.hid (show spaceOk ⟨[i, j], [a, b], es⟩ = false from by rw [HS.out, hk]; simp)
        clear hk
        go_wp2_with (go_at_call 85; (with_reducible refine (imageOk_i (i := j) (Ty.up _ bj1 (by repeat (first | with_reducible exact Gro.refl _ | with_reducible exact Gro.refl_drew _ _ _ | with_reducible exact Gro.refl_drewN _ _ _ _ | assumption | with_reducible apply Gro.more | with_reducible apply Gro.alloc | with_reducible apply Gro.drew | with_reducible apply Gro.drewN))) hcj hsj).mono ?_); rw [HK.out]; rintro e w1 ⟨rfl, os1, d1, rfl⟩)
        go_ret
        exact ⟨ret_bool HQ.out.symm, hG0.trans (by (repeat (first | with_reducible exact Gro.refl _ | with_reducible exact Gro.refl_drew _ _ _ | with_reducible exact Gro.refl_drewN _ _ _ _ | assumption | with_reducible apply Gro.more | with_reducible apply Gro.alloc | with_reducible apply Gro.drew | with_reducible apply Gro.drewN)); done)⟩
      | true =>
        obtain ⟨bk, hb⟩ : ∃ bk, btw b 1 1000000 = bk := ⟨_, rfl⟩
        cases bk with
        | false =>
          have HK := Lib.hid hk
          have HB := Lib.hid hb
          have HQ := Lib.hid (show spaceOk ⟨[i, j], [a, b], es⟩ = false from by rw [HS.out, hb]; simp)
          clear hk hb
          go_wp2_with (first
            | (go_at_call 85; (with_reducible refine (imageOk_i (i := j) (Ty.up _ bj1 (by repeat (first | with_reducible exact Gro.refl _ | with_reducible exact Gro.refl_drew _ _ _ | with_reducible exact Gro.refl_drewN _ _ _ _ | assumption | with_reducible apply Gro.more | with_reducible apply Gro.alloc | with_reducible apply Gro.drew | with_reducible apply Gro.drewN))) hcj hsj).mono ?_); rw [HK.out]; rintro e w1 ⟨rfl, os1, d1, rfl⟩)
            | (go_at_call 48; (with_reducible refine (in_i _ _ _ _).mono ?_); rw [HB.out]; rintro e w1 ⟨rfl, rfl⟩))
          go_ret
          exact ⟨ret_bool HQ.out.symm, hG0.trans (by (repeat (first | with_reducible exact Gro.refl _ | with_reducible exact Gro.refl_drew _ _ _ | with_reducible exact Gro.refl_drewN _ _ _ _ | assumption | with_reducible apply Gro.more | with_reducible apply Gro.alloc | with_reducible apply Gro.drew | with_reducible apply Gro.drewN)); done)⟩
        | true =>
          have HK := Lib.hid hk
          have HB := Lib.hid hb
          clear hk hb
          go_wp2_with (first
            | (go_at_call 85; (with_reducible refine (imageOk_i (i := j) (Ty.up _ bj1 (by repeat (first | with_reducible exact Gro.refl _ | with_reducible exact Gro.refl_drew _ _ _ | with_reducible exact Gro.refl_drewN _ _ _ _ | assumption | with_reducible apply Gro.more | with_reducible apply Gro.alloc | with_reducible apply Gro.drew | with_reducible apply Gro.drewN))) hcj hsj).mono ?_); rw [HK.out]; rintro e w1 ⟨rfl, os1, d1, rfl⟩)
            | (go_at_call 48; (with_reducible refine (in_i _ _ _ _).mono ?_); rw [HB.out]; rintro e w1 ⟨rfl, rfl⟩))
          go_roundw
          case measure => (simp [intOf]; try omega)
          case rel => exact ⟨.inr (.inr ⟨rfl, hq1, hq2, HK.out, HB.out⟩), Lib.hid (by repeat (first | with_reducible exact Gro.refl _ | with_reducible exact Gro.refl_drew _ _ _ | with_reducible exact Gro.refl_drewN _ _ _ _ | assumption | with_reducible apply Gro.more | with_reducible apply Gro.alloc | with_reducible apply Gro.drew | with_reducible apply Gro.drewN))⟩
    · have i0' := gro_keeps i0 os d
      have j0' := gro_keeps j0 os d
      have b0' := gro_keeps b0 os d
      have b1' := gro_keeps b1 os d
      have z0 := gro_keeps y0 os d
      have z1 := gro_keeps y1 os d
      have z2 := gro_keeps y2 os d
      have ra := btw_iff.1 hq2
      have rb := btw_iff.1 hq4
      have HS2 : spaceOk ⟨[i, j], [a, b], es⟩ = (!ovl i j a b && es.all (isEnt ⟨[i, j], [a, b], es⟩)) := by rw [HS.out, hq1, hq2, hq3, hq4]; simp
      have HS3 := Lib.hid HS2
      clear HS2 HS
      have HI := Lib.hid hq1
      have HJ := Lib.hid hq3
      have HA := Lib.hid hq2
      have HB := Lib.hid hq4
      clear hq1 hq2 hq3 hq4
      go_wp2_with (fail)
      go_quiet (fail)
      have hGX : Gro Y ((gro Y os d).drewN nq) := (by repeat (first | with_reducible exact Gro.refl _ | with_reducible exact Gro.refl_drew _ _ _ | with_reducible exact Gro.refl_drewN _ _ _ _ | assumption | with_reducible apply Gro.more | with_reducible apply Gro.alloc | with_reducible apply Gro.drew | with_reducible apply Gro.drewN))
      generalize (gro Y os d).drewN nq = X at hGX ⊢
      clear i0' j0' b0' b1' z0 z1 z2
      have i0' := cell_up hGX i0
      have j0' := cell_up hGX j0
      have b0' := cell_up hGX b0
      have b1' := cell_up hGX b1
      have z0 := cell_up hGX y0
      have z1 := cell_up hGX y1
      have z2 := cell_up hGX y2
      have w1 : IntKind.i64.wrap (b + (j.Code.size : Int)) = b + (j.Code.size : Int) := IntWalk.i64_in _ ⟨by omega, by omega⟩
      have w2 : IntKind.i64.wrap (a + (i.Code.size : Int)) = a + (i.Code.size : Int) := IntWalk.i64_in _ ⟨by omega, by omega⟩
      go_upto_region 10 with fail
      go_cut [91] from 60 to 91 (fun r wx => r = .bool (ovl i j a b) ∧ Hid (Gro X wx))
      case first =>
        by_cases q0 : (0 : Int) < (i.Code.size : Int)
        · have r0 : decide ((0 : Int) < (i.Code.size : Int)) = true := decide_eq_true q0
          have s0 : 0 < i.Code.size := by omega
          have t0 : decide (0 < i.Code.size) = true := decide_eq_true s0
          by_cases q1 : (0 : Int) < (j.Code.size : Int)
          · have r1 : decide ((0 : Int) < (j.Code.size : Int)) = true := decide_eq_true q1
            have s1 : 0 < j.Code.size := by omega
            have t1 : decide (0 < j.Code.size) = true := decide_eq_true s1
            by_cases q2 : a < b + (j.Code.size : Int)
            · have r2 : decide (a < b + (j.Code.size : Int)) = true := decide_eq_true q2
              by_cases q3 : b < a + (i.Code.size : Int)
              · have r3 : decide (b < a + (i.Code.size : Int)) = true := decide_eq_true q3
                go_quiet (fail)
                go_wp2_with (fail)
                go_meet
                exact ⟨by unfold ovl; rw [t0, t1, r2, r3]; simp, Lib.hid (by repeat (first | with_reducible exact Gro.refl _ | with_reducible exact Gro.refl_drew _ _ _ | with_reducible exact Gro.refl_drewN _ _ _ _ | assumption | with_reducible apply Gro.more | with_reducible apply Gro.alloc | with_reducible apply Gro.drew | with_reducible apply Gro.drewN))⟩
              · have r3 : decide (b < a + (i.Code.size : Int)) = false := decide_eq_false q3
                go_quiet (fail)
                go_wp2_with (fail)
                go_meet
                exact ⟨by unfold ovl; rw [t0, t1, r2, r3]; simp, Lib.hid (by repeat (first | with_reducible exact Gro.refl _ | with_reducible exact Gro.refl_drew _ _ _ | with_reducible exact Gro.refl_drewN _ _ _ _ | assumption | with_reducible apply Gro.more | with_reducible apply Gro.alloc | with_reducible apply Gro.drew | with_reducible apply Gro.drewN))⟩
            · have r2 : decide (a < b + (j.Code.size : Int)) = false := decide_eq_false q2
              go_quiet (fail)
              go_wp2_with (fail)
              go_meet
              exact ⟨by unfold ovl; rw [t0, t1, r2]; simp, Lib.hid (by repeat (first | with_reducible exact Gro.refl _ | with_reducible exact Gro.refl_drew _ _ _ | with_reducible exact Gro.refl_drewN _ _ _ _ | assumption | with_reducible apply Gro.more | with_reducible apply Gro.alloc | with_reducible apply Gro.drew | with_reducible apply Gro.drewN))⟩
          · have r1 : decide ((0 : Int) < (j.Code.size : Int)) = false := decide_eq_false q1
            have s1 : ¬ 0 < j.Code.size := by omega
            have t1 : decide (0 < j.Code.size) = false := decide_eq_false s1
            go_quiet (fail)
            go_wp2_with (fail)
            go_meet
            exact ⟨by unfold ovl; rw [t0, t1]; simp, Lib.hid (by repeat (first | with_reducible exact Gro.refl _ | with_reducible exact Gro.refl_drew _ _ _ | with_reducible exact Gro.refl_drewN _ _ _ _ | assumption | with_reducible apply Gro.more | with_reducible apply Gro.alloc | with_reducible apply Gro.drew | with_reducible apply Gro.drewN))⟩
        · have r0 : decide ((0 : Int) < (i.Code.size : Int)) = false := decide_eq_false q0
          have s0 : ¬ 0 < i.Code.size := by omega
          have t0 : decide (0 < i.Code.size) = false := decide_eq_false s0
          go_quiet (fail)
          go_wp2_with (fail)
          go_meet
          exact ⟨by unfold ovl; rw [t0]; simp, Lib.hid (by repeat (first | with_reducible exact Gro.refl _ | with_reducible exact Gro.refl_drew _ _ _ | with_reducible exact Gro.refl_drewN _ _ _ _ | assumption | with_reducible apply Gro.more | with_reducible apply Gro.alloc | with_reducible apply Gro.drew | with_reducible apply Gro.drewN))⟩
      case rest =>
        obtain ⟨rfl, hGw⟩ := hcut
        have hYw : Gro Y wc := hGX.trans hGw.out
        have hGc : Gro w wc := hG0.trans hYw
        clear i0' j0' b0' b1' z0 z1 z2 hGX hGw
        obtain ⟨vb, hv⟩ : ∃ vb, ovl i j a b = vb := ⟨_, rfl⟩
        rw [hv]
        cases vb with
        | true =>
          have HQ := Lib.hid (show spaceOk ⟨[i, j], [a, b], es⟩ = false from by rw [HS3.out, hv]; rfl)
          clear hv
          go_wp2_with (fail)
          go_ret
          exact ⟨ret_bool HQ.out.symm, hGc⟩
        | false =>
          have HQ := Lib.hid (show spaceOk ⟨[i, j], [a, b], es⟩ = es.all (isEnt ⟨[i, j], [a, b], es⟩) from by rw [HS3.out, hv]; rfl)
          have z0 := cell_up hYw y0
          have z1 := cell_up hYw y1
          have z2 := cell_up hYw y2
          have zl : g0 < wc.heap.size := Nat.lt_of_lt_of_le yl hYw.size
          have m0 := Ty.up _ k0 hYw
          have m1 := Ty.up _ k1 hYw
          have m2 := Ty.up _ k2 hYw
          clear hv HS3 w1 w2
          go_wp2_with (fail)
          go_loopw [95] (fun x wr => ∃ k : Nat, x = .int .i64 k ∧ k ≤ es.length ∧ Hid ((es.drop k).all (isEnt ⟨[i, j], [a, b], es⟩) = es.all (isEnt ⟨[i, j], [a, b], es⟩)) ∧ Hid (Gro wc wr)) (fun x _ => es.length - (intOf x).toNat)
          case atStart => exact ⟨0, rfl, Nat.zero_le _, Lib.hid rfl, Lib.hid (Gro.refl _)⟩
          case round =>
            obtain ⟨k, rfl, hk, hE, hG⟩ := hrel
            obtain ⟨os, d, rfl⟩ := hG.out
            clear hG
            by_cases hlt : k < es.length
            · obtain ⟨ge, oe, e, rfl, hek, hce, be1, be2⟩ := ints_at m2 hlt
              have ha := all_at hek (isEnt ⟨[i, j], [a, b], es⟩)
              rw [hE.out] at ha
              have hc := gro_keeps hce os d
              have z0' := gro_keeps z0 os d
              have z1' := gro_keeps z1 os d
              have z2' := gro_keeps z2 os d
              have hki : (k : Int) < (es.length : Int) := by omega
              have he64 : I64 e := ⟨be1, be2⟩
              clear hek hE
              obtain ⟨vb, hv⟩ : ∃ vb, isEnt ⟨[i, j], [a, b], es⟩ e = vb := ⟨_, rfl⟩
              rw [hv] at ha
              have HV := Lib.hid hv
              clear hv
              cases vb with
              | false =>
                have HF := Lib.hid (show spaceOk ⟨[i, j], [a, b], es⟩ = false from by rw [HQ.out, ha]; rfl)
                clear ha
                go_wp2_with (go_at_call 86; (with_reducible refine (isEntry2_i (i := i) (j := j) (a := a) (b := b) (es := es) (e := e) (Ty.up _ m0 (by repeat (first | with_reducible exact Gro.refl _ | with_reducible exact Gro.refl_drew _ _ _ | with_reducible exact Gro.refl_drewN _ _ _ _ | assumption | with_reducible apply Gro.more | with_reducible apply Gro.alloc | with_reducible apply Gro.drew | with_reducible apply Gro.drewN))) (Ty.up _ m1 (by repeat (first | with_reducible exact Gro.refl _ | with_reducible exact Gro.refl_drew _ _ _ | with_reducible exact Gro.refl_drewN _ _ _ _ | assumption | with_reducible apply Gro.more | with_reducible apply Gro.alloc | with_reducible apply Gro.drew | with_reducible apply Gro.drewN))) HI.out HJ.out HA.out HB.out he64).mono ?_); rw [HV.out]; rintro e w1 ⟨rfl, os1, d1, rfl⟩)
                go_ret
                exact ⟨ret_bool HF.out.symm, hGc.trans (by (repeat (first | with_reducible exact Gro.refl _ | with_reducible exact Gro.refl_drew _ _ _ | with_reducible exact Gro.refl_drewN _ _ _ _ | assumption | with_reducible apply Gro.more | with_reducible apply Gro.alloc | with_reducible apply Gro.drew | with_reducible apply Gro.drewN)); done)⟩
              | true =>
                have HF := Lib.hid (show (es.drop (k + 1)).all (isEnt ⟨[i, j], [a, b], es⟩) = es.all (isEnt ⟨[i, j], [a, b], es⟩) from by rw [ha]; rfl)
                clear ha
                go_wp2_with (go_at_call 86; (with_reducible refine (isEntry2_i (i := i) (j := j) (a := a) (b := b) (es := es) (e := e) (Ty.up _ m0 (by repeat (first | with_reducible exact Gro.refl _ | with_reducible exact Gro.refl_drew _ _ _ | with_reducible exact Gro.refl_drewN _ _ _ _ | assumption | with_reducible apply Gro.more | with_reducible apply Gro.alloc | with_reducible apply Gro.drew | with_reducible apply Gro.drewN))) (Ty.up _ m1 (by repeat (first | with_reducible exact Gro.refl _ | with_reducible exact Gro.refl_drew _ _ _ | with_reducible exact Gro.refl_drewN _ _ _ _ | assumption | with_reducible apply Gro.more | with_reducible apply Gro.alloc | with_reducible apply Gro.drew | with_reducible apply Gro.drewN))) HI.out HJ.out HA.out HB.out he64).mono ?_); rw [HV.out]; rintro e w1 ⟨rfl, os1, d1, rfl⟩)
                go_roundw
                case measure => (simp [intOf]; try omega)
                case rel => exact ⟨k + 1, by go_num, by omega, HF, Lib.hid (by repeat (first | with_reducible exact Gro.refl _ | with_reducible exact Gro.refl_drew _ _ _ | with_reducible exact Gro.refl_drewN _ _ _ _ | assumption | with_reducible apply Gro.more | with_reducible apply Gro.alloc | with_reducible apply Gro.drew | with_reducible apply Gro.drewN))⟩
            · obtain rfl : k = es.length := by omega
              have HF := Lib.hid (show spaceOk ⟨[i, j], [a, b], es⟩ = true from by rw [HQ.out, ← hE.out, List.drop_length]; rfl)
              clear hE
              go_wp2_with (fail)
              go_ret
              exact ⟨ret_bool HF.out.symm, hGc.trans (by (repeat (first | with_reducible exact Gro.refl _ | with_reducible exact Gro.refl_drew _ _ _ | with_reducible exact Gro.refl_drewN _ _ _ _ | assumption | with_reducible apply Gro.more | with_reducible apply Gro.alloc | with_reducible apply Gro.drew | with_reducible apply Gro.drewN)); done)⟩
end Go.Proofs.Ytbhobjepjaeffaa
