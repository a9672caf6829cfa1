-- Laid by our own driver (wip/tools/xprint.py) out of the kit's print.
import Derived.Test.YthiiodgpdoljoaaPLcx0
namespace Go.Proofs.Ythiiodgpdoljoaa.PLc
open Go.RowKit Go.Proofs.YthiiodgpdoljoaaW.PrintWords Go.Proofs.YthiiodgpdoljoaaW.PrintLast Go.Proofs.YthiiodgpdoljoaaW.PrintMore
attribute [local go_sem] max2_int min2_int max_two min_two max_three min_three max_four min_four   -- for this text's walks alone
set_option linter.unusedVariables false
set_option linter.unusedSimpArgs false

/-! ### turn_Fits: function 75 -/
def turn_Fits.f (a0 : Int) (a1 : Int) (a2 : Int) : Option (Bool) := if a0 ≥ 0 then (if a0 ≤ 3 then (if a1 ≥ 0 then (if a1 ≤ 6 then (if a2 ≥ 0 then (if 0 ≤ a1 then (if a2 < (shl .i64 1 a1) then (if a0 = 0 then (some (a2 == 0)) else (some true)) else (some false)) else (none)) else (some false)) else (some false)) else (some false)) else (some false)) else (some false)
set_option maxHeartbeats 8000000 in
set_option maxRecDepth 100000 in
theorem turn_Fits.calls (a0 : Int) (a1 : Int) (a2 : Int) (r : Bool) (w : World) (h : turn_Fits.f a0 a1 a2 = some r) :
  Calls Try.prog 75 #[.int .i64 a0, .int .i64 a1, .int .i64 a2] w fun e w' => e = .returned (.bool r) ∧ Drawn0 w w' := by
 have H : (if a0 ≥ 0 then (if a0 ≤ 3 then (if a1 ≥ 0 then (if a1 ≤ 6 then (if a2 ≥ 0 then (if 0 ≤ a1 then (if a2 < (shl .i64 1 a1) then (if a0 = 0 then (some (a2 == 0)) else (some true)) else (some false)) else (none)) else (some false)) else (some false)) else (some false)) else (some false)) else (some false)) = some r := h
 clear h
 by_cases c4 : a0 ≥ 0
 ·rw [if_pos c4] at H
  have c4b0 : decide (0 ≤ a0) = true := decide_eq_true c4; clear c4
  by_cases c5 : a0 ≤ 3
  ·rw [if_pos c5] at H
   have c5b0 : decide (a0 ≤ 3) = true := decide_eq_true c5; clear c5
   by_cases c6 : a1 ≥ 0
   ·rw [if_pos c6] at H
    have c6b0 : decide (0 ≤ a1) = true := decide_eq_true c6; clear c6
    by_cases c7 : a1 ≤ 6
    ·rw [if_pos c7] at H
     have c7b0 : decide (a1 ≤ 6) = true := decide_eq_true c7; clear c7
     by_cases c8 : a2 ≥ 0
     ·rw [if_pos c8] at H
      have c8b0 : decide (0 ≤ a2) = true := decide_eq_true c8; clear c8
      by_cases c9 : 0 ≤ a1
      ·rw [if_pos c9] at H
       have c9b0 := eq_true c9; have c9b1 : decide (0 ≤ a1) = true := decide_eq_true c9; clear c9
       obtain ⟨ji10, hji10⟩ : ∃ j_ : Int, (shl .i64 1 a1) = j_ := ⟨_, rfl⟩
       replace H : (if a2 < (ji10) then (if a0 = 0 then (some (a2 == 0)) else (some true)) else (some false)) = some r := by first | (rw [hji10] at H; exact H) | (simp only [hji10] at H ⊢; exact H)
       have hji10_ : (IntKind.i64.wrap (1 * 2 ^ min a1.toNat 64)) = ji10 := hji10; have hji10z : a1 ≤ 64 → (IntKind.i64.wrap (1 * 2 ^ a1.toNat)) = ji10 := shl_small hji10
       have hji10u : (IntKind.i64.wrap (2 ^ min a1.toNat 64)) = ji10 := by have h_ := hji10_; rw [Int.one_mul] at h_; exact h_
       have hji10v : a1 ≤ 64 → (IntKind.i64.wrap (2 ^ a1.toNat)) = ji10 := fun hle_ => by have h_ := hji10z hle_; rw [Int.one_mul] at h_; exact h_
       have hji10y : (wrap64 (1 * 2 ^ min a1.toNat 64)) = ji10 := (i64_w _).symm.trans hji10_
       have hji10x : a1 ≤ 64 → (wrap64 (1 * 2 ^ a1.toNat)) = ji10 := fun h_ => (i64_w _).symm.trans (hji10z h_)
       by_cases c11 : a2 < (ji10)
       ·rw [if_pos c11] at H
        have c11b0 : decide (a2 < (ji10)) = true := decide_eq_true c11; clear c11
        by_cases c12 : a0 = 0
        ·rw [if_pos c12] at H
         have c12b0 : (a0 == 0) = true := beq_iff_eq.mpr c12; have c12b1 : (a0 != 0) = false := bne_eq_false_iff_eq.mpr c12; clear c12; obtain rfl := Option.some.inj H
         go_enter Try.func75, Try.ntmps75
         go_wp2
         go_ret
         exact ⟨by first | rfl | (simp; done) | (simp only [← hji10] <;> (first | rfl | simp)) | (simp [*]; done), dwA⟩
        ·rw [if_neg c12] at H
         have c12b0 : (a0 == 0) = false := beq_eq_false_iff_ne.mpr c12; have c12b1 : (a0 != 0) = true := bne_iff_ne.mpr c12; obtain rfl := Option.some.inj H
         go_enter Try.func75, Try.ntmps75
         go_wp2
         go_ret
         exact ⟨by first | rfl | (simp; done) | (simp only [← hji10] <;> (first | rfl | simp)) | (simp [*]; done), dwA⟩
       ·rw [if_neg c11] at H
        have c11b0 : decide (a2 < (ji10)) = false := decide_eq_false c11; clear c11; obtain rfl := Option.some.inj H
        go_enter Try.func75, Try.ntmps75
        go_wp2
        go_ret
        exact ⟨by first | rfl | (simp; done) | (simp only [← hji10] <;> (first | rfl | simp)) | (simp [*]; done), dwA⟩
      ·rw [if_neg c9] at H
       exact absurd H (by simp)
     ·rw [if_neg c8] at H
      have c8b0 : decide (0 ≤ a2) = false := decide_eq_false c8; clear c8; obtain rfl := Option.some.inj H
      go_enter Try.func75, Try.ntmps75
      go_wp2
      go_ret
      exact ⟨eqA, dwA⟩
    ·rw [if_neg c7] at H
     have c7b0 : decide (a1 ≤ 6) = false := decide_eq_false c7; clear c7; obtain rfl := Option.some.inj H
     go_enter Try.func75, Try.ntmps75
     go_wp2
     go_ret
     exact ⟨eqA, dwA⟩
   ·rw [if_neg c6] at H
    have c6b0 : decide (0 ≤ a1) = false := decide_eq_false c6; clear c6; obtain rfl := Option.some.inj H
    go_enter Try.func75, Try.ntmps75
    go_wp2
    go_ret
    exact ⟨eqA, dwA⟩
  ·rw [if_neg c5] at H
   have c5b0 : decide (a0 ≤ 3) = false := decide_eq_false c5; clear c5; obtain rfl := Option.some.inj H
   go_enter Try.func75, Try.ntmps75
   go_wp2
   go_ret
   exact ⟨eqA, dwA⟩
 ·rw [if_neg c4] at H
  have c4b0 : decide (0 ≤ a0) = false := decide_eq_false c4; clear c4; obtain rfl := Option.some.inj H
  go_enter Try.func75, Try.ntmps75
  go_wp2
  go_ret
  exact ⟨eqA, dwA⟩

/-! ### circuit_turned: function 117 -/
def circuit_turned.f (a0 : Int) : Option (Int) := if a0 = 4 then (some 1) else (if a0 = 5 then (some 2) else (if a0 = 6 then (some 3) else (some 0)))
set_option maxHeartbeats 8000000 in
set_option maxRecDepth 100000 in
theorem circuit_turned.calls (a0 : Int) (r : Int) (w : World) (h : circuit_turned.f a0 = some r) :
  Calls Try.prog 117 #[.int .i64 a0] w fun e w' => e = .returned (.int .i64 r) ∧ Drawn0 w w' := by
 have H : (if a0 = 4 then (some 1) else (if a0 = 5 then (some 2) else (if a0 = 6 then (some 3) else (some 0)))) = some r := h
 clear h
 by_cases c2 : a0 = 4
 ·rw [if_pos c2] at H
  have c2b0 : (a0 == 4) = true := beq_iff_eq.mpr c2; have c2b1 : (a0 != 4) = false := bne_eq_false_iff_eq.mpr c2; clear c2; obtain rfl := Option.some.inj H
  go_enter Try.func117, Try.ntmps117
  go_wp2
  go_ret
  exact ⟨eqA, dwA⟩
 ·rw [if_neg c2] at H
  have c2b0 : (a0 == 4) = false := beq_eq_false_iff_ne.mpr c2; have c2b1 : (a0 != 4) = true := bne_iff_ne.mpr c2
  by_cases c3 : a0 = 5
  ·rw [if_pos c3] at H
   have c3b0 : (a0 == 5) = true := beq_iff_eq.mpr c3; have c3b1 : (a0 != 5) = false := bne_eq_false_iff_eq.mpr c3; clear c3; obtain rfl := Option.some.inj H
   go_enter Try.func117, Try.ntmps117
   go_wp2
   go_ret
   exact ⟨eqA, dwA⟩
  ·rw [if_neg c3] at H
   have c3b0 : (a0 == 5) = false := beq_eq_false_iff_ne.mpr c3; have c3b1 : (a0 != 5) = true := bne_iff_ne.mpr c3
   by_cases c4 : a0 = 6
   ·rw [if_pos c4] at H
    have c4b0 : (a0 == 6) = true := beq_iff_eq.mpr c4; have c4b1 : (a0 != 6) = false := bne_eq_false_iff_eq.mpr c4; clear c4; obtain rfl := Option.some.inj H
    go_enter Try.func117, Try.ntmps117
    go_wp2
    go_ret
    exact ⟨eqA, dwA⟩
   ·rw [if_neg c4] at H
    have c4b0 : (a0 == 6) = false := beq_eq_false_iff_ne.mpr c4; have c4b1 : (a0 != 6) = true := bne_iff_ne.mpr c4; obtain rfl := Option.some.inj H
    go_enter Try.func117, Try.ntmps117
    go_wp2
    go_ret
    exact ⟨eqA, dwA⟩

end Go.Proofs.Ythiiodgpdoljoaa.PLc
