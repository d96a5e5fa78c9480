/-
  LISTS OF STRUCTS, written by a program (genlist.py): Frame, Node: the laws' own toXS, szXS, eqXS, markXS, heldXS.
-/
import Derived.Test.YtcomafmiclkmhaaRowsPut
import Derived.Test.YtcomafmiclkmhaaAppend
import Derived.Test.YtcomafmiclkmhaaFnFrame
import Derived.Deep.RegionHeld3
set_option linter.unusedVariables false
set_option linter.unusedSimpArgs false
namespace Go.Proofs.Ytcomafmiclkmhaa
open Go.RowKit
theorem atFrame {e : TypeId} {w : World} {B : Nat} {A : Option Addr} {n c : Nat} {xs : List DFrame} (h : (tFrame.sl e).R w B [.slice A n c] xs) {k : Nat} (hk : k < xs.length) :
    ∃ g off x , A = some ⟨g, off, none⟩ ∧ g < B ∧ xs[k]? = some x ∧ w.cell? ⟨g, off + k * 2, none⟩ = some (.string x.Name) ∧ w.cell? ⟨g, off + k * 2 + 1, none⟩ = some (.int .i64 x.Line) ∧ x.Name.size ≤ 9223372036854775807 ∧ I64 x.Line := by
  obtain ⟨g, off, x, ec, h1, hB, h2, h3, h4⟩ := elem_at h hk
  obtain ⟨rfl, hf⟩ := tFrame_R h3
  exact ⟨g, off, x, h1, hB, h2, h4 0 _ rfl, h4 1 _ rfl, hf⟩
def mkEFrame (_ : DFrame) (k : Int) : DFrame := ⟨markTx k, k + 1⟩
def mkFrameS (xs : List DFrame) (k : Int) : List DFrame := mkL mkEFrame (fun _ => 2) xs k
def cntFrameS (xs : List DFrame) : Nat := xs.length * 2
theorem mkFrameS_length (xs : List DFrame) (k : Int) : (mkFrameS xs k).length = xs.length := mkL_length _ _
theorem toFrameS_info : (Try.prog.info? 39).map (fun i => (i.zero, i.size, i.bytes)) = some (some (.agg #[.string ⟨#[]⟩, .int .i64 0]), 2, 24) := by kernel_rfl
theorem flatFrame : Flat tFrame := flat_via _ (flat_prod flat_str flat_int)
theorem atNode {e : TypeId} {w : World} {B : Nat} {A : Option Addr} {n c : Nat} {xs : List DNode} (h : (tNode.sl e).R w B [.slice A n c] xs) {k : Nat} (hk : k < xs.length) :
    ∃ g off x , A = some ⟨g, off, none⟩ ∧ g < B ∧ xs[k]? = some x ∧ w.cell? ⟨g, off + k * 3, none⟩ = some (.int .i64 x.Parent) ∧ w.cell? ⟨g, off + k * 3 + 1, none⟩ = some (.string x.Frame.Name) ∧ w.cell? ⟨g, off + k * 3 + 2, none⟩ = some (.int .i64 x.Frame.Line) ∧ I64 x.Parent ∧ x.Frame.Name.size ≤ 9223372036854775807 ∧ I64 x.Frame.Line := by
  obtain ⟨g, off, x, ec, h1, hB, h2, h3, h4⟩ := elem_at h hk
  obtain ⟨rfl, hf⟩ := tNode_R h3
  exact ⟨g, off, x, h1, hB, h2, h4 0 _ rfl, h4 1 _ rfl, h4 2 _ rfl, hf⟩
def mkENode (_ : DNode) (k : Int) : DNode := ⟨k, ⟨markTx (k + 1), k + 1 + 1⟩⟩
def mkNodeS (xs : List DNode) (k : Int) : List DNode := mkL mkENode (fun _ => 3) xs k
def cntNodeS (xs : List DNode) : Nat := xs.length * 3
theorem mkNodeS_length (xs : List DNode) (k : Int) : (mkNodeS xs k).length = xs.length := mkL_length _ _
theorem toNodeS_info : (Try.prog.info? 41).map (fun i => (i.zero, i.size, i.bytes)) = some (some (.agg #[.int .i64 0, .string ⟨#[]⟩, .int .i64 0]), 3, 32) := by kernel_rfl
theorem flatNode : Flat tNode := flat_via _ (flat_prod flat_int flatFrame)
theorem elNode : Elem Try.prog 22 41 tNode 32 := by
  obtain ⟨i0, hi, hz0, hz1, hz2⟩ := info_parts toNodeS_info
  exact ⟨Try.underlying22, ⟨i0, _, hi, hz0, hz1, hz2, rfl⟩, by decide⟩
set_option maxRecDepth 100000 in
theorem eqNodeS_l {xs ys : List DNode} {w : World} {v u : Value} (hx : (tNode.sl 41).R w w.heap.size [v] xs) (hy : (tNode.sl 41).R w w.heap.size [u] ys) :
    Calls Try.prog 34 #[v, u] w fun e w' => e = .returned (.bool (decide (xs = ys))) ∧ Gro w w' := by
  obtain ⟨A, c, rfl, h1, h2⟩ := sl_at hx
  obtain ⟨A', c', rfl, k1, k2⟩ := sl_at hy
  by_cases hl : xs.length = ys.length
  · have hne : ((xs.length : Int) != (ys.length : Int)) = false := by simp [hl]
    have HL := Lib.hid hl
    clear hl
    go_enter Try.func34, Try.ntmps34
    go_wp2_with (fail)
    go_loopw [5] (fun i wr => ∃ k : Nat, k ≤ xs.length ∧ i = .int .i64 k ∧ Hid (Gro w wr) ∧ Hid (xs.take k = ys.take k)) (fun i _ => xs.length - (intOf i).toNat)
    case atStart => exact ⟨0, Nat.zero_le _, rfl, Gro.refl _, Lib.hid (by simp)⟩
    case round =>
      obtain ⟨k, hk, rfl, hG, HT⟩ := hrel
      obtain ⟨os, d, rfl⟩ := hG.out
      clear hG
      by_cases hlt : k < xs.length
      · have hlt2 : k < ys.length := by rw [← HL.out]; exact hlt
        obtain ⟨g, off, x, rfl, hgb, hxk, hx0, hx1, hx2, bx0, bx1, bx2⟩ := atNode hx hlt
        obtain ⟨g', off', y, rfl, hgb', hyk, hy0, hy1, hy2, by0, by1, by2⟩ := atNode hy hlt2
        have HX := Lib.hid hxk
        have HY := Lib.hid hyk
        clear hxk hyk hx hy
        by_cases hxy : x = y
        · subst hxy
          go_wp2_with (fail)
          go_region_held3 (fun w' => w'.cell? ⟨g, off + k * 3, none⟩ = some (.int .i64 x.Parent) ∧ w'.cell? ⟨g, off + k * 3 + 1, none⟩ = some (.string x.Frame.Name) ∧ w'.cell? ⟨g, off + k * 3 + 2, none⟩ = some (.int .i64 x.Frame.Line) ∧ w'.cell? ⟨g', off' + k * 3, none⟩ = some (.int .i64 x.Parent) ∧ w'.cell? ⟨g', off' + k * 3 + 1, none⟩ = some (.string x.Frame.Name) ∧ w'.cell? ⟨g', off' + k * 3 + 2, none⟩ = some (.int .i64 x.Frame.Line)) ((repeat' apply And.intro) <;> (first | ((repeat (first | assumption | with_reducible refine gro_keeps ?_ _ _ | with_reducible refine alloc_keeps ?_ _ | with_reducible refine drew_keeps ?_)); done) | (simp [go_sem]; done))) (first
            | (go_at_call 43; refine (eqNode_l (x := x) (y := x)).mono ?_; rintro e w1 ⟨rfl, os1, d1, rfl⟩))
          go_wp2
          go_roundw
          case rel => exact ⟨k + 1, by omega, by go_num, Lib.hid (by repeat (first | with_reducible exact Gro.refl _ | with_reducible exact Gro.refl_drew _ _ _ | with_reducible exact Gro.refl_drewN _ _ _ _ | assumption | with_reducible apply Gro.more | with_reducible apply Gro.alloc | with_reducible apply Gro.drew | with_reducible apply Gro.drewN)), Lib.hid (by rw [take_snoc HX.out, take_snoc HY.out, HT.out])⟩
          case measure => simp [intOf]; omega
        · have HXY := Lib.hid (show decide (x = y) = false from by simp [hxy])
          go_wp2_with (fail)
          go_region_held3 (fun w' => w'.cell? ⟨g, off + k * 3, none⟩ = some (.int .i64 x.Parent) ∧ w'.cell? ⟨g, off + k * 3 + 1, none⟩ = some (.string x.Frame.Name) ∧ w'.cell? ⟨g, off + k * 3 + 2, none⟩ = some (.int .i64 x.Frame.Line) ∧ w'.cell? ⟨g', off' + k * 3, none⟩ = some (.int .i64 y.Parent) ∧ w'.cell? ⟨g', off' + k * 3 + 1, none⟩ = some (.string y.Frame.Name) ∧ w'.cell? ⟨g', off' + k * 3 + 2, none⟩ = some (.int .i64 y.Frame.Line)) ((repeat' apply And.intro) <;> (first | ((repeat (first | assumption | with_reducible refine gro_keeps ?_ _ _ | with_reducible refine alloc_keeps ?_ _ | with_reducible refine drew_keeps ?_)); done) | (simp [go_sem]; done))) (first
            | (go_at_call 43; refine (eqNode_l (x := x) (y := y)).mono ?_; rw [HXY.out]; rintro e w1 ⟨rfl, os1, d1, rfl⟩))
          go_wp2
          go_ret
          refine ⟨ret_bool ?_, (by repeat (first | with_reducible exact Gro.refl _ | with_reducible exact Gro.refl_drew _ _ _ | with_reducible exact Gro.refl_drewN _ _ _ _ | assumption | with_reducible apply Gro.more | with_reducible apply Gro.alloc | with_reducible apply Gro.drew | with_reducible apply Gro.drewN))⟩
          symm
          simp only [decide_eq_false_iff_not]
          rintro rfl
          exact hxy (Option.some.inj (HX.out.symm.trans HY.out))
      · go_wp2
        go_ret
        refine ⟨ret_bool ?_, (by repeat (first | with_reducible exact Gro.refl _ | with_reducible exact Gro.refl_drew _ _ _ | with_reducible exact Gro.refl_drewN _ _ _ _ | assumption | with_reducible apply Gro.more | with_reducible apply Gro.alloc | with_reducible apply Gro.drew | with_reducible apply Gro.drewN))⟩
        have : k = xs.length := by omega
        subst this
        have h1 := HT.out
        rw [HL.out] at h1
        simp only [List.take_length] at h1
        rw [← HL.out] at h1
        simp at h1
        simp [h1]
  · have hne : ((xs.length : Int) != (ys.length : Int)) = true := by simp; omega
    go_enter Try.func34, Try.ntmps34
    go_wp2
    go_ret
    exact ⟨ret_bool (by symm; simp only [decide_eq_false_iff_not]; rintro rfl; exact hl rfl), Gro.refl _⟩
set_option maxRecDepth 100000 in
set_option maxHeartbeats 2000000 in
theorem markNodeS_l {xs : List DNode} {w : World} {A : Option Addr} {n c : Nat} {k : Int} {S : List Nat} (hO : (tNode.sl 41).O w [.slice A n c] xs S) (hS : S.Nodup) (h0 : 0 < k) (h1 : k + cntNodeS xs ≤ 1099511627776) :
    Calls Try.prog 35 #[.slice A n c, .int .i64 k] w fun e w' => e = .returned (.int .i64 (k + cntNodeS xs)) ∧ (tNode.sl 41).O w' [.slice A n c] (mkNodeS xs k) S ∧ OnlyS S w w' := by
  obtain ⟨_, _, hx, h2, h3⟩ := sl_at (Ty.read _ hO)
  injection hx with hA hn hc
  subst hA hn hc
  clear h3
  unfold cntNodeS at h1 ⊢
  go_enter Try.func35, Try.ntmps35
  go_wp2_with (fail)
  go_loopw [1, 5] (fun a i wr => ∃ (j : Nat), j ≤ xs.length ∧ a = .int .i64 (k + j * 3) ∧ i = .int .i64 j ∧ Hid ((tNode.sl 41).O wr [.slice A xs.length c] (mkTo mkENode (fun _ => 3) xs k j) S) ∧ Hid (OnlyS S w wr)) (fun _ i _ => xs.length - (intOf i).toNat)
  case atStart => exact ⟨0, Nat.zero_le _, by simp, rfl, Lib.hid (by rw [mkTo_zero]; exact hO), OnlyS.refl _ _⟩
  case round =>
    obtain ⟨j, hj, rfl, rfl, ho, hs⟩ := hrel
    by_cases hlt : j < xs.length
    · have hxj : xs[j]? = some xs[j] := List.getElem?_eq_getElem hlt
      obtain ⟨g, ec, Sc, rfl, hgS, hgl, hgc, hSc, hO1, hfz, hcell, hset⟩ := own_put ho.out hS (mkTo_get hxj k)
      generalize hxe : xs[j] = x at hxj hO1
      clear hxe
      obtain ⟨rfl, rfl, _, _, _⟩ := tNode_O hO1
      have hc0 := hcell 0 _ rfl
      have hc1 := hcell 1 _ rfl
      have hc2 := hcell 2 _ rfl
      simp only [Nat.add_zero, show tNode.size = 3 from rfl] at hc0 hc1 hc2
      have hf0 := hfz (j * 3)
      have hf1 := hfz (j * 3 + 1)
      have hf2 := hfz (j * 3 + 2)
      have HX := Lib.hid hxj
      have HS := Lib.hid hset
      clear hcell hset hfz hxj hO hO1
      go_wp2_with (first | (go_at_call 44; refine (markText_l _ (by omega) (by omega) _).mono ?_; rintro e w1 ⟨rfl, os, d, rfl⟩))
      go_roundw
      case rel =>
        have h := HS.out [.int .i64 (k + j * 3), .string (markTx (k + j * 3 + 1)), .int .i64 (k + j * 3 + 1 + 1)] (mkENode x (k + j * 3)) (tNode_mkOd (x := mkENode x (k + j * 3)) (show I64 (k + j * 3) from ⟨by omega, by omega⟩) (tFrame_mkOd (x := (mkENode x (k + j * 3)).Frame) (markTx_size _ (by omega) (by omega)) (show I64 (k + j * 3 + 1 + 1) from ⟨by omega, by omega⟩)))
        have e := mkTo_set (mk := mkENode) (cnt := fun _ => 3) HX.out k
        rw [cntL_const_take 3 (by omega), Int.natCast_mul] at e
        rw [show mkENode x (k + j * 3) = mkENode x (k + (j : Int) * ((3 : Nat) : Int)) from rfl, e] at h
        exact ⟨j + 1, by omega, by go_num, by go_num, Lib.hid (Ty.groO _ h.1 (Gro.of _ _ _)), Lib.hid ((hs.out.trans h.2).trans ((Gro.of _ _ _).only _))⟩
      case measure => simp [intOf]; omega
    · go_wp2
      have : j = xs.length := by omega
      subst this
      have ho' := ho.out
      rw [mkTo_all] at ho'
      go_ret
      exact ⟨rfl, ho', hs.out⟩
set_option maxRecDepth 100000 in
set_option maxHeartbeats 2000000 in
theorem heldNodeS_l {xs : List DNode} {w : World} {v : Value} {k : Int} (hx : (tNode.sl 41).R w w.heap.size [v] (mkNodeS xs k)) (h0 : 0 < k) (h1 : k + cntNodeS xs ≤ 1099511627776) :
    Calls Try.prog 36 #[v, .int .i64 k] w fun e w' => e = .returned (.int .i64 (k + cntNodeS xs)) ∧ Gro w w' := by
  obtain ⟨A, c, rfl, h2, h3⟩ := sl_at hx
  have hlen : (mkNodeS xs k).length = xs.length := mkL_length _ _
  rw [hlen] at h2 hx ⊢
  have HL := Lib.hid hlen
  clear hlen
  unfold cntNodeS at h1 ⊢
  go_enter Try.func36, Try.ntmps36
  go_wp2_with (fail)
  go_loopw [1, 5] (fun a i wr => ∃ (j : Nat), j ≤ xs.length ∧ a = .int .i64 (k + j * 3) ∧ i = .int .i64 j ∧ Hid (Gro w wr)) (fun _ i _ => xs.length - (intOf i).toNat)
  case atStart => exact ⟨0, Nat.zero_le _, by simp, rfl, Gro.refl _⟩
  case round =>
    obtain ⟨j, hj, rfl, rfl, hG⟩ := hrel
    obtain ⟨os, d, rfl⟩ := hG.out
    clear hG
    by_cases hlt : j < xs.length
    · obtain ⟨g, off, x, rfl, hgb, hxk, hx0, hx1, hx2, bx0, bx1, bx2⟩ := atNode hx (k := j) (by rw [HL.out]; exact hlt)
      have hxe : x = mkENode xs[j] (k + j * 3) := by
        have := mkL_get (mk := mkENode) (cnt := fun _ => 3) (List.getElem?_eq_getElem hlt) k
        rw [cntL_const_take 3 (by omega), Int.natCast_mul] at this
        exact Option.some.inj (hxk.symm.trans this)
      clear hxk hx
      subst hxe
      simp only [mkENode] at hx0 hx1 hx2
      go_wp2_with (fail)
      go_region_held3 (fun w' => w'.cell? ⟨g, off + j * 3 + 1, none⟩ = some (.string (markTx (k + j * 3 + 1)))) ((repeat' apply And.intro) <;> (first | ((repeat (first | assumption | with_reducible refine gro_keeps ?_ _ _ | with_reducible refine alloc_keeps ?_ _ | with_reducible refine drew_keeps ?_)); done) | (simp [go_sem]; done))) (first
        | (go_at_call 44; refine (markText_l _ (by omega) (by omega) _).mono ?_; rintro e w1 ⟨rfl, os1, d1, rfl⟩))
      go_wp2_with (fail)
      go_roundw
      case rel => exact ⟨j + 1, by omega, by go_num, by go_num, Lib.hid (by repeat (first | with_reducible exact Gro.refl _ | with_reducible exact Gro.refl_drew _ _ _ | with_reducible exact Gro.refl_drewN _ _ _ _ | assumption | with_reducible apply Gro.more | with_reducible apply Gro.alloc | with_reducible apply Gro.drew | with_reducible apply Gro.drewN))⟩
      case measure => simp [intOf]; omega
    · go_wp2
      have : j = xs.length := by omega
      subst this
      go_ret
      exact ⟨ret_int (by push_cast; rfl), (by repeat (first | with_reducible exact Gro.refl _ | with_reducible exact Gro.refl_drew _ _ _ | with_reducible exact Gro.refl_drewN _ _ _ _ | assumption | with_reducible apply Gro.more | with_reducible apply Gro.alloc | with_reducible apply Gro.drew | with_reducible apply Gro.drewN))⟩
end Go.Proofs.Ytcomafmiclkmhaa
