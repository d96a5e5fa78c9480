/-
  PROCOK: the contracts of MachineOk and ProcessOk.
-/
import Derived.Test.YtfhcegblnhagjaaSpace2
import Derived.Test.YtfhcegblnhagjaaFnProcess
set_option linter.unusedVariables false
set_option linter.unusedSimpArgs false
namespace Go.Proofs.Ytfhcegblnhagjaa
open Go.RowKit
def machineOk (m : DMachine) : Bool := decide (m.Stack.length = 1200) && btw m.Sp 0 1200 && btw m.State 0 2
def procOk (x : DProcess) : Bool := spaceOk x.Space && btw x.Threads.length 1 3 && btw x.Turn 0 ((x.Threads.length : Int) - 1) && btw x.Slice 1 1000 && btw x.Left 1 x.Slice && x.Threads.all machineOk
set_option maxRecDepth 100000 in
theorem machineOk_i {m : DMachine} {w : World} {A0 A1 : Option Addr} {c0 c1 : Nat} (hn : m.Stack.length ≤ 1099511627776) : Calls Try.prog 49 #[.agg #[.int .i64 m.Pc, .int .i64 m.Sp, .int .i64 m.Fp, .slice A0 m.Stack.length c0, .slice A1 m.Out.length c1, .int .i64 m.State, .int .i64 m.Value]] w fun r w' => r = .returned (.bool (machineOk m)) ∧ Gro w w' := by
  by_cases q : m.Stack.length = 1200
  case neg =>
    have HQ := Lib.hid (show machineOk m = false from by simp [machineOk, q])
    have p1 : ((m.Stack.length : Int) == 1200) = false := by simp; omega
    clear q
    go_enter Try.func49, Try.ntmps49
    go_wp2_with (fail)
    go_ret
    exact ⟨ret_bool HQ.out.symm, (by repeat (first | with_reducible exact Gro.refl _ | with_reducible exact Gro.refl_drew _ _ _ | with_reducible exact Gro.refl_drewN _ _ _ _ | assumption | with_reducible apply Gro.more | with_reducible apply Gro.alloc | with_reducible apply Gro.drew | with_reducible apply Gro.drewN))⟩
  have p1 : ((m.Stack.length : Int) == 1200) = true := by simp; omega
  obtain ⟨b1, h1⟩ : ∃ b, btw m.Sp 0 1200 = b := ⟨_, rfl⟩
  obtain ⟨b2, h2⟩ : ∃ b, btw m.State 0 2 = b := ⟨_, rfl⟩
  have HQ := Lib.hid (show machineOk m = (b1 && b2) from by simp [machineOk, q, h1, h2])
  have H1 := Lib.hid h1
  have H2 := Lib.hid h2
  clear q h1 h2
  cases b1 with
  | false =>
    go_enter Try.func49, Try.ntmps49
    go_wp2_with (go_at_call 48; (with_reducible refine (in_i _ _ _ _).mono ?_); first | (rw [H1.out]; rintro e w1 ⟨rfl, rfl⟩))
    go_ret
    exact ⟨ret_bool HQ.out.symm, (by repeat (first | with_reducible exact Gro.refl _ | with_reducible exact Gro.refl_drew _ _ _ | with_reducible exact Gro.refl_drewN _ _ _ _ | assumption | with_reducible apply Gro.more | with_reducible apply Gro.alloc | with_reducible apply Gro.drew | with_reducible apply Gro.drewN))⟩
  | true =>
    go_enter Try.func49, Try.ntmps49
    go_wp2_with (go_at_call 48; (with_reducible refine (in_i _ _ _ _).mono ?_); first | (rw [H1.out]; rintro e w1 ⟨rfl, rfl⟩) | (rw [H2.out]; rintro e w1 ⟨rfl, rfl⟩))
    go_ret
    exact ⟨ret_bool (by rw [HQ.out]; rfl), (by repeat (first | with_reducible exact Gro.refl _ | with_reducible exact Gro.refl_drew _ _ _ | with_reducible exact Gro.refl_drewN _ _ _ _ | assumption | with_reducible apply Gro.more | with_reducible apply Gro.alloc | with_reducible apply Gro.drew | with_reducible apply Gro.drewN))⟩
set_option maxRecDepth 100000 in
theorem machineOk_s {m : DMachine} {w : World} {A0 A1 : Option Addr} {c0 c1 : Nat} (hn : m.Stack.length ≤ 1099511627776) : Calls Try.prog 45 #[.agg #[.int .i64 m.Pc, .int .i64 m.Sp, .int .i64 m.Fp, .slice A0 m.Stack.length c0, .slice A1 m.Out.length c1, .int .i64 m.State, .int .i64 m.Value]] w fun r w' => r = .returned (.bool (machineOk m)) ∧ Gro w w' := by
  by_cases q : m.Stack.length = 1200
  case neg =>
    have HQ := Lib.hid (show machineOk m = false from by simp [machineOk, q])
    have p1 : ((m.Stack.length : Int) == 1200) = false := by simp; omega
    clear q
    go_enter Try.func45, Try.ntmps45
    go_wp2_with (fail)
    go_ret
    exact ⟨ret_bool HQ.out.symm, (by repeat (first | with_reducible exact Gro.refl _ | with_reducible exact Gro.refl_drew _ _ _ | with_reducible exact Gro.refl_drewN _ _ _ _ | assumption | with_reducible apply Gro.more | with_reducible apply Gro.alloc | with_reducible apply Gro.drew | with_reducible apply Gro.drewN))⟩
  have p1 : ((m.Stack.length : Int) == 1200) = true := by simp; omega
  obtain ⟨b1, h1⟩ : ∃ b, btw m.Sp 0 1200 = b := ⟨_, rfl⟩
  obtain ⟨b2, h2⟩ : ∃ b, btw m.State 0 2 = b := ⟨_, rfl⟩
  have HQ := Lib.hid (show machineOk m = (b1 && b2) from by simp [machineOk, q, h1, h2])
  have H1 := Lib.hid h1
  have H2 := Lib.hid h2
  clear q h1 h2
  cases b1 with
  | false =>
    go_enter Try.func45, Try.ntmps45
    go_wp2_with (go_at_call 44; (with_reducible refine (in_s _ _ _ _).mono ?_); first | (rw [H1.out]; rintro e w1 ⟨rfl, rfl⟩))
    go_ret
    exact ⟨ret_bool HQ.out.symm, (by repeat (first | with_reducible exact Gro.refl _ | with_reducible exact Gro.refl_drew _ _ _ | with_reducible exact Gro.refl_drewN _ _ _ _ | assumption | with_reducible apply Gro.more | with_reducible apply Gro.alloc | with_reducible apply Gro.drew | with_reducible apply Gro.drewN))⟩
  | true =>
    go_enter Try.func45, Try.ntmps45
    go_wp2_with (go_at_call 44; (with_reducible refine (in_s _ _ _ _).mono ?_); first | (rw [H1.out]; rintro e w1 ⟨rfl, rfl⟩) | (rw [H2.out]; rintro e w1 ⟨rfl, rfl⟩))
    go_ret
    exact ⟨ret_bool (by rw [HQ.out]; rfl), (by repeat (first | with_reducible exact Gro.refl _ | with_reducible exact Gro.refl_drew _ _ _ | with_reducible exact Gro.refl_drewN _ _ _ _ | assumption | with_reducible apply Gro.more | with_reducible apply Gro.alloc | with_reducible apply Gro.drew | with_reducible apply Gro.drewN))⟩
set_option maxRecDepth 100000 in
set_option maxHeartbeats 4000000 in
theorem procOk_i {x : DProcess} {w : World} {A0 A1 A2 A3 : Option Addr} {c0 c1 c2 c3 : Nat} (h0 : (tImage.sl 103).R w w.heap.size [.slice A0 x.Space.Images.length c0] x.Space.Images) (h1 : (intT.sl 3).R w w.heap.size [.slice A1 x.Space.Bases.length c1] x.Space.Bases)
    (h2 : (intT.sl 3).R w w.heap.size [.slice A2 x.Space.Entries.length c2] x.Space.Entries) (h3 : (tMachine.sl 80).R w w.heap.size [.slice A3 x.Threads.length c3] x.Threads) (hs : szProcess x ≤ 1099511627776) :
    Calls Try.prog 13 #[.agg #[.slice A0 x.Space.Images.length c0, .slice A1 x.Space.Bases.length c1, .slice A2 x.Space.Entries.length c2, .slice A3 x.Threads.length c3, .int .i64 x.Turn, .int .i64 x.Left, .int .i64 x.Slice]] w fun r w' => r = .returned (.bool (procOk x)) ∧ Gro w w' := by
  have hsp : szSpace x.Space ≤ 1099511627776 := by unfold szProcess at hs; omega
  have hth : szL szMachine x.Threads ≤ 1099511627776 := by unfold szProcess at hs; omega
  obtain ⟨_, _, hx', htl, htm⟩ := sl_at h3
  injection hx' with e1 e2 e3
  subst e1 e3
  clear e2 hs
  obtain ⟨b0, q0⟩ : ∃ b, spaceOk x.Space = b := ⟨_, rfl⟩
  obtain ⟨b1, q1⟩ : ∃ b, btw x.Threads.length 1 3 = b := ⟨_, rfl⟩
  obtain ⟨b2, q2⟩ : ∃ b, btw x.Turn 0 ((x.Threads.length : Int) - 1) = b := ⟨_, rfl⟩
  obtain ⟨b3, q3⟩ : ∃ b, btw x.Slice 1 1000 = b := ⟨_, rfl⟩
  obtain ⟨b4, q4⟩ : ∃ b, btw x.Left 1 x.Slice = b := ⟨_, rfl⟩
  have HQ := Lib.hid (show procOk x = (b0 && b1 && b2 && b3 && b4 && x.Threads.all machineOk) from by unfold procOk; rw [q0, q1, q2, q3, q4])
  have H0 := Lib.hid q0
  have H1 := Lib.hid q1
  have H2 := Lib.hid q2
  have H3 := Lib.hid q3
  have H4 := Lib.hid q4
  have w1 : IntKind.i64.wrap ((x.Threads.length : Int) - 1) = (x.Threads.length : Int) - 1 := IntWalk.i64_in _ ⟨by omega, by omega⟩
  clear q0 q1 q2 q3 q4
  cases b0 with
  | false =>
    have HF := Lib.hid (show procOk x = false from by rw [HQ.out]; simp)
    go_enter Try.func13, Try.ntmps13
    go_wp2_with (go_at_call 47; (with_reducible refine (spaceOk_i (s := x.Space) (Ty.up _ h0 (by repeat (first | with_reducible exact Gro.refl _ | with_reducible exact Gro.refl_drew _ _ _ | with_reducible exact Gro.refl_drewN _ _ _ _ | assumption | with_reducible apply Gro.more | with_reducible apply Gro.alloc | with_reducible apply Gro.drew | with_reducible apply Gro.drewN))) (Ty.up _ h1 (by repeat (first | with_reducible exact Gro.refl _ | with_reducible exact Gro.refl_drew _ _ _ | with_reducible exact Gro.refl_drewN _ _ _ _ | assumption | with_reducible apply Gro.more | with_reducible apply Gro.alloc | with_reducible apply Gro.drew | with_reducible apply Gro.drewN))) (Ty.up _ h2 (by repeat (first | with_reducible exact Gro.refl _ | with_reducible exact Gro.refl_drew _ _ _ | with_reducible exact Gro.refl_drewN _ _ _ _ | assumption | with_reducible apply Gro.more | with_reducible apply Gro.alloc | with_reducible apply Gro.drew | with_reducible apply Gro.drewN))) hsp).mono ?_); rw [H0.out]; rintro e w1 ⟨rfl, os1, d1, rfl⟩)
    go_ret
    exact ⟨ret_bool HF.out.symm, (by repeat (first | with_reducible exact Gro.refl _ | with_reducible exact Gro.refl_drew _ _ _ | with_reducible exact Gro.refl_drewN _ _ _ _ | assumption | with_reducible apply Gro.more | with_reducible apply Gro.alloc | with_reducible apply Gro.drew | with_reducible apply Gro.drewN))⟩
  | true =>
  cases b1 with
  | false =>
    have HF := Lib.hid (show procOk x = false from by rw [HQ.out]; simp)
    go_enter Try.func13, Try.ntmps13
    go_wp2_with (first
      | (go_at_call 47; (with_reducible refine (spaceOk_i (s := x.Space) (Ty.up _ h0 (by repeat (first | with_reducible exact Gro.refl _ | with_reducible exact Gro.refl_drew _ _ _ | with_reducible exact Gro.refl_drewN _ _ _ _ | assumption | with_reducible apply Gro.more | with_reducible apply Gro.alloc | with_reducible apply Gro.drew | with_reducible apply Gro.drewN))) (Ty.up _ h1 (by repeat (first | with_reducible exact Gro.refl _ | with_reducible exact Gro.refl_drew _ _ _ | with_reducible exact Gro.refl_drewN _ _ _ _ | assumption | with_reducible apply Gro.more | with_reducible apply Gro.alloc | with_reducible apply Gro.drew | with_reducible apply Gro.drewN))) (Ty.up _ h2 (by repeat (first | with_reducible exact Gro.refl _ | with_reducible exact Gro.refl_drew _ _ _ | with_reducible exact Gro.refl_drewN _ _ _ _ | assumption | with_reducible apply Gro.more | with_reducible apply Gro.alloc | with_reducible apply Gro.drew | with_reducible apply Gro.drewN))) hsp).mono ?_); rw [H0.out]; rintro e w1 ⟨rfl, os1, d1, rfl⟩)
      | (go_at_call 48; (with_reducible refine (in_i _ _ _ _).mono ?_); first | (rw [H1.out]; rintro e w1 ⟨rfl, rfl⟩)))
    go_ret
    exact ⟨ret_bool HF.out.symm, (by repeat (first | with_reducible exact Gro.refl _ | with_reducible exact Gro.refl_drew _ _ _ | with_reducible exact Gro.refl_drewN _ _ _ _ | assumption | with_reducible apply Gro.more | with_reducible apply Gro.alloc | with_reducible apply Gro.drew | with_reducible apply Gro.drewN))⟩
  | true =>
  cases b2 with
  | false =>
    have HF := Lib.hid (show procOk x = false from by rw [HQ.out]; simp)
    go_enter Try.func13, Try.ntmps13
    go_wp2_with (first
      | (go_at_call 47; (with_reducible refine (spaceOk_i (s := x.Space) (Ty.up _ h0 (by repeat (first | with_reducible exact Gro.refl _ | with_reducible exact Gro.refl_drew _ _ _ | with_reducible exact Gro.refl_drewN _ _ _ _ | assumption | with_reducible apply Gro.more | with_reducible apply Gro.alloc | with_reducible apply Gro.drew | with_reducible apply Gro.drewN))) (Ty.up _ h1 (by repeat (first | with_reducible exact Gro.refl _ | with_reducible exact Gro.refl_drew _ _ _ | with_reducible exact Gro.refl_drewN _ _ _ _ | assumption | with_reducible apply Gro.more | with_reducible apply Gro.alloc | with_reducible apply Gro.drew | with_reducible apply Gro.drewN))) (Ty.up _ h2 (by repeat (first | with_reducible exact Gro.refl _ | with_reducible exact Gro.refl_drew _ _ _ | with_reducible exact Gro.refl_drewN _ _ _ _ | assumption | with_reducible apply Gro.more | with_reducible apply Gro.alloc | with_reducible apply Gro.drew | with_reducible apply Gro.drewN))) hsp).mono ?_); rw [H0.out]; rintro e w1 ⟨rfl, os1, d1, rfl⟩)
      | (go_at_call 48; (with_reducible refine (in_i _ _ _ _).mono ?_); first | (rw [H1.out]; rintro e w1 ⟨rfl, rfl⟩) | (rw [H2.out]; rintro e w1 ⟨rfl, rfl⟩)))
    go_ret
    exact ⟨ret_bool HF.out.symm, (by repeat (first | with_reducible exact Gro.refl _ | with_reducible exact Gro.refl_drew _ _ _ | with_reducible exact Gro.refl_drewN _ _ _ _ | assumption | with_reducible apply Gro.more | with_reducible apply Gro.alloc | with_reducible apply Gro.drew | with_reducible apply Gro.drewN))⟩
  | true =>
  cases b3 with
  | false =>
    have HF := Lib.hid (show procOk x = false from by rw [HQ.out]; simp)
    go_enter Try.func13, Try.ntmps13
    go_wp2_with (first
      | (go_at_call 47; (with_reducible refine (spaceOk_i (s := x.Space) (Ty.up _ h0 (by repeat (first | with_reducible exact Gro.refl _ | with_reducible exact Gro.refl_drew _ _ _ | with_reducible exact Gro.refl_drewN _ _ _ _ | assumption | with_reducible apply Gro.more | with_reducible apply Gro.alloc | with_reducible apply Gro.drew | with_reducible apply Gro.drewN))) (Ty.up _ h1 (by repeat (first | with_reducible exact Gro.refl _ | with_reducible exact Gro.refl_drew _ _ _ | with_reducible exact Gro.refl_drewN _ _ _ _ | assumption | with_reducible apply Gro.more | with_reducible apply Gro.alloc | with_reducible apply Gro.drew | with_reducible apply Gro.drewN))) (Ty.up _ h2 (by repeat (first | with_reducible exact Gro.refl _ | with_reducible exact Gro.refl_drew _ _ _ | with_reducible exact Gro.refl_drewN _ _ _ _ | assumption | with_reducible apply Gro.more | with_reducible apply Gro.alloc | with_reducible apply Gro.drew | with_reducible apply Gro.drewN))) hsp).mono ?_); rw [H0.out]; rintro e w1 ⟨rfl, os1, d1, rfl⟩)
      | (go_at_call 48; (with_reducible refine (in_i _ _ _ _).mono ?_); first | (rw [H1.out]; rintro e w1 ⟨rfl, rfl⟩) | (rw [H2.out]; rintro e w1 ⟨rfl, rfl⟩) | (rw [H3.out]; rintro e w1 ⟨rfl, rfl⟩)))
    go_ret
    exact ⟨ret_bool HF.out.symm, (by repeat (first | with_reducible exact Gro.refl _ | with_reducible exact Gro.refl_drew _ _ _ | with_reducible exact Gro.refl_drewN _ _ _ _ | assumption | with_reducible apply Gro.more | with_reducible apply Gro.alloc | with_reducible apply Gro.drew | with_reducible apply Gro.drewN))⟩
  | true =>
  cases b4 with
  | false =>
    have HF := Lib.hid (show procOk x = false from by rw [HQ.out]; simp)
    go_enter Try.func13, Try.ntmps13
    go_wp2_with (first
      | (go_at_call 47; (with_reducible refine (spaceOk_i (s := x.Space) (Ty.up _ h0 (by repeat (first | with_reducible exact Gro.refl _ | with_reducible exact Gro.refl_drew _ _ _ | with_reducible exact Gro.refl_drewN _ _ _ _ | assumption | with_reducible apply Gro.more | with_reducible apply Gro.alloc | with_reducible apply Gro.drew | with_reducible apply Gro.drewN))) (Ty.up _ h1 (by repeat (first | with_reducible exact Gro.refl _ | with_reducible exact Gro.refl_drew _ _ _ | with_reducible exact Gro.refl_drewN _ _ _ _ | assumption | with_reducible apply Gro.more | with_reducible apply Gro.alloc | with_reducible apply Gro.drew | with_reducible apply Gro.drewN))) (Ty.up _ h2 (by repeat (first | with_reducible exact Gro.refl _ | with_reducible exact Gro.refl_drew _ _ _ | with_reducible exact Gro.refl_drewN _ _ _ _ | assumption | with_reducible apply Gro.more | with_reducible apply Gro.alloc | with_reducible apply Gro.drew | with_reducible apply Gro.drewN))) hsp).mono ?_); rw [H0.out]; rintro e w1 ⟨rfl, os1, d1, rfl⟩)
      | (go_at_call 48; (with_reducible refine (in_i _ _ _ _).mono ?_); first | (rw [H1.out]; rintro e w1 ⟨rfl, rfl⟩) | (rw [H2.out]; rintro e w1 ⟨rfl, rfl⟩) | (rw [H3.out]; rintro e w1 ⟨rfl, rfl⟩) | (rw [H4.out]; rintro e w1 ⟨rfl, rfl⟩)))
    go_ret
    exact ⟨ret_bool HF.out.symm, (by repeat (first | with_reducible exact Gro.refl _ | with_reducible exact Gro.refl_drew _ _ _ | with_reducible exact Gro.refl_drewN _ _ _ _ | assumption | with_reducible apply Gro.more | with_reducible apply Gro.alloc | with_reducible apply Gro.drew | with_reducible apply Gro.drewN))⟩
  | true =>
  have HF := Lib.hid (show procOk x = x.Threads.all machineOk from by rw [HQ.out]; simp)
  go_enter Try.func13, Try.ntmps13
  go_wp2_with (first
      | (go_at_call 47; (with_reducible refine (spaceOk_i (s := x.Space) (Ty.up _ h0 (by repeat (first | with_reducible exact Gro.refl _ | with_reducible exact Gro.refl_drew _ _ _ | with_reducible exact Gro.refl_drewN _ _ _ _ | assumption | with_reducible apply Gro.more | with_reducible apply Gro.alloc | with_reducible apply Gro.drew | with_reducible apply Gro.drewN))) (Ty.up _ h1 (by repeat (first | with_reducible exact Gro.refl _ | with_reducible exact Gro.refl_drew _ _ _ | with_reducible exact Gro.refl_drewN _ _ _ _ | assumption | with_reducible apply Gro.more | with_reducible apply Gro.alloc | with_reducible apply Gro.drew | with_reducible apply Gro.drewN))) (Ty.up _ h2 (by repeat (first | with_reducible exact Gro.refl _ | with_reducible exact Gro.refl_drew _ _ _ | with_reducible exact Gro.refl_drewN _ _ _ _ | assumption | with_reducible apply Gro.more | with_reducible apply Gro.alloc | with_reducible apply Gro.drew | with_reducible apply Gro.drewN))) hsp).mono ?_); rw [H0.out]; rintro e w1 ⟨rfl, os1, d1, rfl⟩)
      | (go_at_call 48; (with_reducible refine (in_i _ _ _ _).mono ?_); first | (rw [H1.out]; rintro e w1 ⟨rfl, rfl⟩) | (rw [H2.out]; rintro e w1 ⟨rfl, rfl⟩) | (rw [H3.out]; rintro e w1 ⟨rfl, rfl⟩) | (rw [H4.out]; rintro e w1 ⟨rfl, rfl⟩)))
  have hG0 : Gro w (gro (w.alloc (.cells #[.slice A0 x.Space.Images.length c0, .slice A1 x.Space.Bases.length c1, .slice A2 x.Space.Entries.length c2, .slice A3 x.Threads.length c3, .int .i64 x.Turn, .int .i64 x.Left, .int .i64 x.Slice] 36)) os1 d1) := (by repeat (first | with_reducible exact Gro.refl _ | with_reducible exact Gro.refl_drew _ _ _ | with_reducible exact Gro.refl_drewN _ _ _ _ | assumption | with_reducible apply Gro.more | with_reducible apply Gro.alloc | with_reducible apply Gro.drew | with_reducible apply Gro.drewN))
  have eb : (gro (w.alloc (.cells #[.slice A0 x.Space.Images.length c0, .slice A1 x.Space.Bases.length c1, .slice A2 x.Space.Entries.length c2, .slice A3 x.Threads.length c3, .int .i64 x.Turn, .int .i64 x.Left, .int .i64 x.Slice] 36)) os1 d1).heap[w.heap.size]? = some (.cells #[.slice A0 x.Space.Images.length c0, .slice A1 x.Space.Bases.length c1, .slice A2 x.Space.Entries.length c2, .slice A3 x.Threads.length c3, .int .i64 x.Turn, .int .i64 x.Left, .int .i64 x.Slice] 36 (0, 0)) := grow_blk (heap_alloc_new w _) (by (repeat (first | with_reducible exact Gro.refl _ | with_reducible exact Gro.refl_drew _ _ _ | with_reducible exact Gro.refl_drewN _ _ _ _ | assumption | with_reducible apply Gro.more | with_reducible apply Gro.alloc | with_reducible apply Gro.drew | with_reducible apply Gro.drewN)); done)
  have k3 := Ty.up _ h3 hG0
  obtain ⟨g0, hg0⟩ : ∃ g0, w.heap.size = g0 := ⟨_, rfl⟩
  rw [hg0] at eb ⊢
  generalize (gro (w.alloc (.cells #[.slice A0 x.Space.Images.length c0, .slice A1 x.Space.Bases.length c1, .slice A2 x.Space.Entries.length c2, .slice A3 x.Threads.length c3, .int .i64 x.Turn, .int .i64 x.Left, .int .i64 x.Slice] 36)) os1 d1) = Y at hG0 eb k3 ⊢
  have hc := fun k => cell_of_row Y g0 k _ _ (0, 0) eb
  have y1 : Y.cell? ⟨g0, 3, none⟩ = some (.slice A3 x.Threads.length c3) := hc 3
  have yl : g0 < Y.heap.size := (Array.getElem?_eq_some_iff.1 eb).1
  clear h0 h1 h2 h3 hg0 hc eb
  go_loopw [43] (fun z wr => ∃ k : Nat, z = .int .i64 k ∧ k ≤ x.Threads.length ∧ Hid ((x.Threads.drop k).all machineOk = x.Threads.all machineOk) ∧ Hid (Gro Y wr)) (fun z _ => x.Threads.length - (intOf z).toNat)
  case atStart => exact ⟨0, rfl, Nat.zero_le _, Lib.hid rfl, Lib.hid (Gro.refl _)⟩
  case round =>
    obtain ⟨k, rfl, hk, hE, hG⟩ := hrel
    obtain ⟨os, d, rfl⟩ := hG.out
    clear hG
    have y1' := gro_keeps y1 os d
    by_cases hlt : k < x.Threads.length
    · obtain ⟨g, off, y, Aa, ca, Ab, cb, rfl, hgb, hyk, m0, m1, m2, m3, m4, m5, m6, _⟩ := atMachine k3 hlt
      have ha := all_at hyk machineOk
      rw [hE.out] at ha
      have n0 := gro_keeps m0 os d
      have n1 := gro_keeps m1 os d
      have n2 := gro_keeps m2 os d
      have n3 := gro_keeps m3 os d
      have n4 := gro_keeps m4 os d
      have n5 := gro_keeps m5 os d
      have n6 := gro_keeps m6 os d
      have hki : (k : Int) < (x.Threads.length : Int) := by omega
      have hyl : y.Stack.length ≤ 1099511627776 := by have h1 := szL_elem szMachine hyk; unfold szMachine at h1 hth; omega
      obtain ⟨b, hb⟩ : ∃ b, machineOk y = b := ⟨_, rfl⟩
      rw [hb] at ha
      have HB := Lib.hid hb
      clear hb hyk hE m0 m1 m2 m3 m4 m5 m6
      cases b with
      | false =>
        have HR := Lib.hid (show procOk x = false from by rw [HF.out, ha]; rfl)
        clear ha
        go_wp2_with (go_at_call 49; (with_reducible refine (machineOk_i (m := y) hyl).mono ?_); rw [HB.out]; rintro e w2 ⟨rfl, os2, d2, rfl⟩)
        go_ret
        exact ⟨ret_bool HR.out.symm, hG0.trans (by (repeat (first | with_reducible exact Gro.refl _ | with_reducible exact Gro.refl_drew _ _ _ | with_reducible exact Gro.refl_drewN _ _ _ _ | assumption | with_reducible apply Gro.more | with_reducible apply Gro.alloc | with_reducible apply Gro.drew | with_reducible apply Gro.drewN)); done)⟩
      | true =>
        have HR := Lib.hid (show (x.Threads.drop (k + 1)).all machineOk = x.Threads.all machineOk from by rw [ha]; rfl)
        clear ha
        go_wp2_with (go_at_call 49; (with_reducible refine (machineOk_i (m := y) hyl).mono ?_); rw [HB.out]; rintro e w2 ⟨rfl, os2, d2, rfl⟩)
        go_roundw
        case measure => (simp [intOf]; try omega)
        case rel => exact ⟨k + 1, by go_num, by omega, HR, Lib.hid (by repeat (first | with_reducible exact Gro.refl _ | with_reducible exact Gro.refl_drew _ _ _ | with_reducible exact Gro.refl_drewN _ _ _ _ | assumption | with_reducible apply Gro.more | with_reducible apply Gro.alloc | with_reducible apply Gro.drew | with_reducible apply Gro.drewN))⟩
    · obtain rfl : k = x.Threads.length := by omega
      have HR := Lib.hid (show procOk x = true from by rw [HF.out, ← hE.out, List.drop_length]; rfl)
      clear hE
      go_wp2_with (fail)
      go_ret
      exact ⟨ret_bool HR.out.symm, hG0.trans (by (repeat (first | with_reducible exact Gro.refl _ | with_reducible exact Gro.refl_drew _ _ _ | with_reducible exact Gro.refl_drewN _ _ _ _ | assumption | with_reducible apply Gro.more | with_reducible apply Gro.alloc | with_reducible apply Gro.drew | with_reducible apply Gro.drewN)); done)⟩
set_option maxRecDepth 100000 in
set_option maxHeartbeats 4000000 in
theorem procOk_s {x : DProcess} {w : World} {A0 A1 A2 A3 : Option Addr} {c0 c1 c2 c3 : Nat} (h0 : (tImage.sl 103).R w w.heap.size [.slice A0 x.Space.Images.length c0] x.Space.Images) (h1 : (intT.sl 3).R w w.heap.size [.slice A1 x.Space.Bases.length c1] x.Space.Bases)
    (h2 : (intT.sl 3).R w w.heap.size [.slice A2 x.Space.Entries.length c2] x.Space.Entries) (h3 : (tMachine.sl 80).R w w.heap.size [.slice A3 x.Threads.length c3] x.Threads) (hs : szProcess x ≤ 1099511627776) :
    Calls Try.prog 11 #[.agg #[.slice A0 x.Space.Images.length c0, .slice A1 x.Space.Bases.length c1, .slice A2 x.Space.Entries.length c2, .slice A3 x.Threads.length c3, .int .i64 x.Turn, .int .i64 x.Left, .int .i64 x.Slice]] w fun r w' => r = .returned (.bool (procOk x)) ∧ Gro w w' := by
  have hsp : szSpace x.Space ≤ 1099511627776 := by unfold szProcess at hs; omega
  have hth : szL szMachine x.Threads ≤ 1099511627776 := by unfold szProcess at hs; omega
  obtain ⟨_, _, hx', htl, htm⟩ := sl_at h3
  injection hx' with e1 e2 e3
  subst e1 e3
  clear e2 hs
  obtain ⟨b0, q0⟩ : ∃ b, spaceOk x.Space = b := ⟨_, rfl⟩
  obtain ⟨b1, q1⟩ : ∃ b, btw x.Threads.length 1 3 = b := ⟨_, rfl⟩
  obtain ⟨b2, q2⟩ : ∃ b, btw x.Turn 0 ((x.Threads.length : Int) - 1) = b := ⟨_, rfl⟩
  obtain ⟨b3, q3⟩ : ∃ b, btw x.Slice 1 1000 = b := ⟨_, rfl⟩
  obtain ⟨b4, q4⟩ : ∃ b, btw x.Left 1 x.Slice = b := ⟨_, rfl⟩
  have HQ := Lib.hid (show procOk x = (b0 && b1 && b2 && b3 && b4 && x.Threads.all machineOk) from by unfold procOk; rw [q0, q1, q2, q3, q4])
  have H0 := Lib.hid q0
  have H1 := Lib.hid q1
  have H2 := Lib.hid q2
  have H3 := Lib.hid q3
  have H4 := Lib.hid q4
  have w1 : IntKind.i64.wrap ((x.Threads.length : Int) - 1) = (x.Threads.length : Int) - 1 := IntWalk.i64_in _ ⟨by omega, by omega⟩
  clear q0 q1 q2 q3 q4
  cases b0 with
  | false =>
    have HF := Lib.hid (show procOk x = false from by rw [HQ.out]; simp)
    go_enter Try.func11, Try.ntmps11
    go_wp2_with (go_at_call 43; (with_reducible refine (spaceOk_s (s := x.Space) (Ty.up _ h0 (by repeat (first | with_reducible exact Gro.refl _ | with_reducible exact Gro.refl_drew _ _ _ | with_reducible exact Gro.refl_drewN _ _ _ _ | assumption | with_reducible apply Gro.more | with_reducible apply Gro.alloc | with_reducible apply Gro.drew | with_reducible apply Gro.drewN))) (Ty.up _ h1 (by repeat (first | with_reducible exact Gro.refl _ | with_reducible exact Gro.refl_drew _ _ _ | with_reducible exact Gro.refl_drewN _ _ _ _ | assumption | with_reducible apply Gro.more | with_reducible apply Gro.alloc | with_reducible apply Gro.drew | with_reducible apply Gro.drewN))) (Ty.up _ h2 (by repeat (first | with_reducible exact Gro.refl _ | with_reducible exact Gro.refl_drew _ _ _ | with_reducible exact Gro.refl_drewN _ _ _ _ | assumption | with_reducible apply Gro.more | with_reducible apply Gro.alloc | with_reducible apply Gro.drew | with_reducible apply Gro.drewN))) hsp).mono ?_); rw [H0.out]; rintro e w1 ⟨rfl, os1, d1, rfl⟩)
    go_ret
    exact ⟨ret_bool HF.out.symm, (by repeat (first | with_reducible exact Gro.refl _ | with_reducible exact Gro.refl_drew _ _ _ | with_reducible exact Gro.refl_drewN _ _ _ _ | assumption | with_reducible apply Gro.more | with_reducible apply Gro.alloc | with_reducible apply Gro.drew | with_reducible apply Gro.drewN))⟩
  | true =>
  cases b1 with
  | false =>
    have HF := Lib.hid (show procOk x = false from by rw [HQ.out]; simp)
    go_enter Try.func11, Try.ntmps11
    go_wp2_with (first
      | (go_at_call 43; (with_reducible refine (spaceOk_s (s := x.Space) (Ty.up _ h0 (by repeat (first | with_reducible exact Gro.refl _ | with_reducible exact Gro.refl_drew _ _ _ | with_reducible exact Gro.refl_drewN _ _ _ _ | assumption | with_reducible apply Gro.more | with_reducible apply Gro.alloc | with_reducible apply Gro.drew | with_reducible apply Gro.drewN))) (Ty.up _ h1 (by repeat (first | with_reducible exact Gro.refl _ | with_reducible exact Gro.refl_drew _ _ _ | with_reducible exact Gro.refl_drewN _ _ _ _ | assumption | with_reducible apply Gro.more | with_reducible apply Gro.alloc | with_reducible apply Gro.drew | with_reducible apply Gro.drewN))) (Ty.up _ h2 (by repeat (first | with_reducible exact Gro.refl _ | with_reducible exact Gro.refl_drew _ _ _ | with_reducible exact Gro.refl_drewN _ _ _ _ | assumption | with_reducible apply Gro.more | with_reducible apply Gro.alloc | with_reducible apply Gro.drew | with_reducible apply Gro.drewN))) hsp).mono ?_); rw [H0.out]; rintro e w1 ⟨rfl, os1, d1, rfl⟩)
      | (go_at_call 44; (with_reducible refine (in_s _ _ _ _).mono ?_); first | (rw [H1.out]; rintro e w1 ⟨rfl, rfl⟩)))
    go_ret
    exact ⟨ret_bool HF.out.symm, (by repeat (first | with_reducible exact Gro.refl _ | with_reducible exact Gro.refl_drew _ _ _ | with_reducible exact Gro.refl_drewN _ _ _ _ | assumption | with_reducible apply Gro.more | with_reducible apply Gro.alloc | with_reducible apply Gro.drew | with_reducible apply Gro.drewN))⟩
  | true =>
  cases b2 with
  | false =>
    have HF := Lib.hid (show procOk x = false from by rw [HQ.out]; simp)
    go_enter Try.func11, Try.ntmps11
    go_wp2_with (first
      | (go_at_call 43; (with_reducible refine (spaceOk_s (s := x.Space) (Ty.up _ h0 (by repeat (first | with_reducible exact Gro.refl _ | with_reducible exact Gro.refl_drew _ _ _ | with_reducible exact Gro.refl_drewN _ _ _ _ | assumption | with_reducible apply Gro.more | with_reducible apply Gro.alloc | with_reducible apply Gro.drew | with_reducible apply Gro.drewN))) (Ty.up _ h1 (by repeat (first | with_reducible exact Gro.refl _ | with_reducible exact Gro.refl_drew _ _ _ | with_reducible exact Gro.refl_drewN _ _ _ _ | assumption | with_reducible apply Gro.more | with_reducible apply Gro.alloc | with_reducible apply Gro.drew | with_reducible apply Gro.drewN))) (Ty.up _ h2 (by repeat (first | with_reducible exact Gro.refl _ | with_reducible exact Gro.refl_drew _ _ _ | with_reducible exact Gro.refl_drewN _ _ _ _ | assumption | with_reducible apply Gro.more | with_reducible apply Gro.alloc | with_reducible apply Gro.drew | with_reducible apply Gro.drewN))) hsp).mono ?_); rw [H0.out]; rintro e w1 ⟨rfl, os1, d1, rfl⟩)
      | (go_at_call 44; (with_reducible refine (in_s _ _ _ _).mono ?_); first | (rw [H1.out]; rintro e w1 ⟨rfl, rfl⟩) | (rw [H2.out]; rintro e w1 ⟨rfl, rfl⟩)))
    go_ret
    exact ⟨ret_bool HF.out.symm, (by repeat (first | with_reducible exact Gro.refl _ | with_reducible exact Gro.refl_drew _ _ _ | with_reducible exact Gro.refl_drewN _ _ _ _ | assumption | with_reducible apply Gro.more | with_reducible apply Gro.alloc | with_reducible apply Gro.drew | with_reducible apply Gro.drewN))⟩
  | true =>
  cases b3 with
  | false =>
    have HF := Lib.hid (show procOk x = false from by rw [HQ.out]; simp)
    go_enter Try.func11, Try.ntmps11
    go_wp2_with (first
      | (go_at_call 43; (with_reducible refine (spaceOk_s (s := x.Space) (Ty.up _ h0 (by repeat (first | with_reducible exact Gro.refl _ | with_reducible exact Gro.refl_drew _ _ _ | with_reducible exact Gro.refl_drewN _ _ _ _ | assumption | with_reducible apply Gro.more | with_reducible apply Gro.alloc | with_reducible apply Gro.drew | with_reducible apply Gro.drewN))) (Ty.up _ h1 (by repeat (first | with_reducible exact Gro.refl _ | with_reducible exact Gro.refl_drew _ _ _ | with_reducible exact Gro.refl_drewN _ _ _ _ | assumption | with_reducible apply Gro.more | with_reducible apply Gro.alloc | with_reducible apply Gro.drew | with_reducible apply Gro.drewN))) (Ty.up _ h2 (by repeat (first | with_reducible exact Gro.refl _ | with_reducible exact Gro.refl_drew _ _ _ | with_reducible exact Gro.refl_drewN _ _ _ _ | assumption | with_reducible apply Gro.more | with_reducible apply Gro.alloc | with_reducible apply Gro.drew | with_reducible apply Gro.drewN))) hsp).mono ?_); rw [H0.out]; rintro e w1 ⟨rfl, os1, d1, rfl⟩)
      | (go_at_call 44; (with_reducible refine (in_s _ _ _ _).mono ?_); first | (rw [H1.out]; rintro e w1 ⟨rfl, rfl⟩) | (rw [H2.out]; rintro e w1 ⟨rfl, rfl⟩) | (rw [H3.out]; rintro e w1 ⟨rfl, rfl⟩)))
    go_ret
    exact ⟨ret_bool HF.out.symm, (by repeat (first | with_reducible exact Gro.refl _ | with_reducible exact Gro.refl_drew _ _ _ | with_reducible exact Gro.refl_drewN _ _ _ _ | assumption | with_reducible apply Gro.more | with_reducible apply Gro.alloc | with_reducible apply Gro.drew | with_reducible apply Gro.drewN))⟩
  | true =>
  cases b4 with
  | false =>
    have HF := Lib.hid (show procOk x = false from by rw [HQ.out]; simp)
    go_enter Try.func11, Try.ntmps11
    go_wp2_with (first
      | (go_at_call 43; (with_reducible refine (spaceOk_s (s := x.Space) (Ty.up _ h0 (by repeat (first | with_reducible exact Gro.refl _ | with_reducible exact Gro.refl_drew _ _ _ | with_reducible exact Gro.refl_drewN _ _ _ _ | assumption | with_reducible apply Gro.more | with_reducible apply Gro.alloc | with_reducible apply Gro.drew | with_reducible apply Gro.drewN))) (Ty.up _ h1 (by repeat (first | with_reducible exact Gro.refl _ | with_reducible exact Gro.refl_drew _ _ _ | with_reducible exact Gro.refl_drewN _ _ _ _ | assumption | with_reducible apply Gro.more | with_reducible apply Gro.alloc | with_reducible apply Gro.drew | with_reducible apply Gro.drewN))) (Ty.up _ h2 (by repeat (first | with_reducible exact Gro.refl _ | with_reducible exact Gro.refl_drew _ _ _ | with_reducible exact Gro.refl_drewN _ _ _ _ | assumption | with_reducible apply Gro.more | with_reducible apply Gro.alloc | with_reducible apply Gro.drew | with_reducible apply Gro.drewN))) hsp).mono ?_); rw [H0.out]; rintro e w1 ⟨rfl, os1, d1, rfl⟩)
      | (go_at_call 44; (with_reducible refine (in_s _ _ _ _).mono ?_); first | (rw [H1.out]; rintro e w1 ⟨rfl, rfl⟩) | (rw [H2.out]; rintro e w1 ⟨rfl, rfl⟩) | (rw [H3.out]; rintro e w1 ⟨rfl, rfl⟩) | (rw [H4.out]; rintro e w1 ⟨rfl, rfl⟩)))
    go_ret
    exact ⟨ret_bool HF.out.symm, (by repeat (first | with_reducible exact Gro.refl _ | with_reducible exact Gro.refl_drew _ _ _ | with_reducible exact Gro.refl_drewN _ _ _ _ | assumption | with_reducible apply Gro.more | with_reducible apply Gro.alloc | with_reducible apply Gro.drew | with_reducible apply Gro.drewN))⟩
  | true =>
  have HF := Lib.hid (show procOk x = x.Threads.all machineOk from by rw [HQ.out]; simp)
  go_enter Try.func11, Try.ntmps11
  go_wp2_with (first
      | (go_at_call 43; (with_reducible refine (spaceOk_s (s := x.Space) (Ty.up _ h0 (by repeat (first | with_reducible exact Gro.refl _ | with_reducible exact Gro.refl_drew _ _ _ | with_reducible exact Gro.refl_drewN _ _ _ _ | assumption | with_reducible apply Gro.more | with_reducible apply Gro.alloc | with_reducible apply Gro.drew | with_reducible apply Gro.drewN))) (Ty.up _ h1 (by repeat (first | with_reducible exact Gro.refl _ | with_reducible exact Gro.refl_drew _ _ _ | with_reducible exact Gro.refl_drewN _ _ _ _ | assumption | with_reducible apply Gro.more | with_reducible apply Gro.alloc | with_reducible apply Gro.drew | with_reducible apply Gro.drewN))) (Ty.up _ h2 (by repeat (first | with_reducible exact Gro.refl _ | with_reducible exact Gro.refl_drew _ _ _ | with_reducible exact Gro.refl_drewN _ _ _ _ | assumption | with_reducible apply Gro.more | with_reducible apply Gro.alloc | with_reducible apply Gro.drew | with_reducible apply Gro.drewN))) hsp).mono ?_); rw [H0.out]; rintro e w1 ⟨rfl, os1, d1, rfl⟩)
      | (go_at_call 44; (with_reducible refine (in_s _ _ _ _).mono ?_); first | (rw [H1.out]; rintro e w1 ⟨rfl, rfl⟩) | (rw [H2.out]; rintro e w1 ⟨rfl, rfl⟩) | (rw [H3.out]; rintro e w1 ⟨rfl, rfl⟩) | (rw [H4.out]; rintro e w1 ⟨rfl, rfl⟩)))
  have hG0 : Gro w (gro (w.alloc (.cells #[.slice A0 x.Space.Images.length c0, .slice A1 x.Space.Bases.length c1, .slice A2 x.Space.Entries.length c2, .slice A3 x.Threads.length c3, .int .i64 x.Turn, .int .i64 x.Left, .int .i64 x.Slice] 36)) os1 d1) := (by repeat (first | with_reducible exact Gro.refl _ | with_reducible exact Gro.refl_drew _ _ _ | with_reducible exact Gro.refl_drewN _ _ _ _ | assumption | with_reducible apply Gro.more | with_reducible apply Gro.alloc | with_reducible apply Gro.drew | with_reducible apply Gro.drewN))
  have eb : (gro (w.alloc (.cells #[.slice A0 x.Space.Images.length c0, .slice A1 x.Space.Bases.length c1, .slice A2 x.Space.Entries.length c2, .slice A3 x.Threads.length c3, .int .i64 x.Turn, .int .i64 x.Left, .int .i64 x.Slice] 36)) os1 d1).heap[w.heap.size]? = some (.cells #[.slice A0 x.Space.Images.length c0, .slice A1 x.Space.Bases.length c1, .slice A2 x.Space.Entries.length c2, .slice A3 x.Threads.length c3, .int .i64 x.Turn, .int .i64 x.Left, .int .i64 x.Slice] 36 (0, 0)) := grow_blk (heap_alloc_new w _) (by (repeat (first | with_reducible exact Gro.refl _ | with_reducible exact Gro.refl_drew _ _ _ | with_reducible exact Gro.refl_drewN _ _ _ _ | assumption | with_reducible apply Gro.more | with_reducible apply Gro.alloc | with_reducible apply Gro.drew | with_reducible apply Gro.drewN)); done)
  have k3 := Ty.up _ h3 hG0
  obtain ⟨g0, hg0⟩ : ∃ g0, w.heap.size = g0 := ⟨_, rfl⟩
  rw [hg0] at eb ⊢
  generalize (gro (w.alloc (.cells #[.slice A0 x.Space.Images.length c0, .slice A1 x.Space.Bases.length c1, .slice A2 x.Space.Entries.length c2, .slice A3 x.Threads.length c3, .int .i64 x.Turn, .int .i64 x.Left, .int .i64 x.Slice] 36)) os1 d1) = Y at hG0 eb k3 ⊢
  have hc := fun k => cell_of_row Y g0 k _ _ (0, 0) eb
  have y1 : Y.cell? ⟨g0, 3, none⟩ = some (.slice A3 x.Threads.length c3) := hc 3
  have yl : g0 < Y.heap.size := (Array.getElem?_eq_some_iff.1 eb).1
  clear h0 h1 h2 h3 hg0 hc eb
  go_loopw [3] (fun z wr => ∃ k : Nat, z = .int .i64 k ∧ k ≤ x.Threads.length ∧ Hid ((x.Threads.drop k).all machineOk = x.Threads.all machineOk) ∧ Hid (Gro Y wr)) (fun z _ => x.Threads.length - (intOf z).toNat)
  case atStart => exact ⟨0, rfl, Nat.zero_le _, Lib.hid rfl, Lib.hid (Gro.refl _)⟩
  case round =>
    obtain ⟨k, rfl, hk, hE, hG⟩ := hrel
    obtain ⟨os, d, rfl⟩ := hG.out
    clear hG
    have y1' := gro_keeps y1 os d
    by_cases hlt : k < x.Threads.length
    · obtain ⟨g, off, y, Aa, ca, Ab, cb, rfl, hgb, hyk, m0, m1, m2, m3, m4, m5, m6, _⟩ := atMachine k3 hlt
      have ha := all_at hyk machineOk
      rw [hE.out] at ha
      have n0 := gro_keeps m0 os d
      have n1 := gro_keeps m1 os d
      have n2 := gro_keeps m2 os d
      have n3 := gro_keeps m3 os d
      have n4 := gro_keeps m4 os d
      have n5 := gro_keeps m5 os d
      have n6 := gro_keeps m6 os d
      have hki : (k : Int) < (x.Threads.length : Int) := by omega
      have hyl : y.Stack.length ≤ 1099511627776 := by have h1 := szL_elem szMachine hyk; unfold szMachine at h1 hth; omega
      obtain ⟨b, hb⟩ : ∃ b, machineOk y = b := ⟨_, rfl⟩
      rw [hb] at ha
      have HB := Lib.hid hb
      clear hb hyk hE m0 m1 m2 m3 m4 m5 m6
      cases b with
      | false =>
        have HR := Lib.hid (show procOk x = false from by rw [HF.out, ha]; rfl)
        clear ha
        go_wp2_with (go_at_call 45; (with_reducible refine (machineOk_s (m := y) hyl).mono ?_); rw [HB.out]; rintro e w2 ⟨rfl, os2, d2, rfl⟩)
        go_ret
        exact ⟨ret_bool HR.out.symm, hG0.trans (by (repeat (first | with_reducible exact Gro.refl _ | with_reducible exact Gro.refl_drew _ _ _ | with_reducible exact Gro.refl_drewN _ _ _ _ | assumption | with_reducible apply Gro.more | with_reducible apply Gro.alloc | with_reducible apply Gro.drew | with_reducible apply Gro.drewN)); done)⟩
      | true =>
        have HR := Lib.hid (show (x.Threads.drop (k + 1)).all machineOk = x.Threads.all machineOk from by rw [ha]; rfl)
        clear ha
        go_wp2_with (go_at_call 45; (with_reducible refine (machineOk_s (m := y) hyl).mono ?_); rw [HB.out]; rintro e w2 ⟨rfl, os2, d2, rfl⟩)
        go_roundw
        case measure => (simp [intOf]; try omega)
        case rel => exact ⟨k + 1, by go_num, by omega, HR, Lib.hid (by repeat (first | with_reducible exact Gro.refl _ | with_reducible exact Gro.refl_drew _ _ _ | with_reducible exact Gro.refl_drewN _ _ _ _ | assumption | with_reducible apply Gro.more | with_reducible apply Gro.alloc | with_reducible apply Gro.drew | with_reducible apply Gro.drewN))⟩
    · obtain rfl : k = x.Threads.length := by omega
      have HR := Lib.hid (show procOk x = true from by rw [HF.out, ← hE.out, List.drop_length]; rfl)
      clear hE
      go_wp2_with (fail)
      go_ret
      exact ⟨ret_bool HR.out.symm, hG0.trans (by (repeat (first | with_reducible exact Gro.refl _ | with_reducible exact Gro.refl_drew _ _ _ | with_reducible exact Gro.refl_drewN _ _ _ _ | assumption | with_reducible apply Gro.more | with_reducible apply Gro.alloc | with_reducible apply Gro.drew | with_reducible apply Gro.drewN)); done)⟩
end Go.Proofs.Ytfhcegblnhagjaa
