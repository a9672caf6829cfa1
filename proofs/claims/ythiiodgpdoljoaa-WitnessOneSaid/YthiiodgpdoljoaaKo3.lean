import Derived.Test.YthiiodgpdoljoaaKo2
import Derived.Test.YthiiodgpdoljoaaKo1
-- Words and walks that the kit's print has laid for this seat, cut down, and our own texts, merged.
namespace Go.Proofs.Ythiiodgpdoljoaa.PLw
open Go.RowKit Go.Proofs.YthiiodgpdoljoaaW.PrintWords Go.Proofs.YthiiodgpdoljoaaW.PrintLast Go.Proofs.YthiiodgpdoljoaaW.PrintMore
attribute [local go_sem] max2_int min2_int max_two min_two max_three min_three max_four min_four   -- for this text's walks alone
set_option linter.unusedVariables false
set_option linter.unusedSimpArgs false
/-! ### turn_Fits: function 75 -/
def turn_Fits.f (a0 : Int) (a1 : Int) (a2 : Int) : Option (Bool) := if a0 ≥ 0 then (if a0 ≤ 3 then (if a1 ≥ 0 then (if a1 ≤ 6 then (if a2 ≥ 0 then (if 0 ≤ a1 then (if a2 < (shl .i64 1 a1) then (if a0 = 0 then (some (a2 == 0)) else (some true)) else (some false)) else (none)) else (some false)) else (some false)) else (some false)) else (some false)) else (some false)
set_option maxHeartbeats 8000000 in
set_option maxRecDepth 100000 in
theorem turn_Fits.calls (a0 : Int) (a1 : Int) (a2 : Int) (r : Bool) (w : World) (h : turn_Fits.f a0 a1 a2 = some r) :
  Calls Try.prog 75 #[.int .i64 a0, .int .i64 a1, .int .i64 a2] w fun e w' => e = .returned (.bool r) ∧ Drawn0 w w' := by
 have H : (if a0 ≥ 0 then (if a0 ≤ 3 then (if a1 ≥ 0 then (if a1 ≤ 6 then (if a2 ≥ 0 then (if 0 ≤ a1 then (if a2 < (shl .i64 1 a1) then (if a0 = 0 then (some (a2 == 0)) else (some true)) else (some false)) else (none)) else (some false)) else (some false)) else (some false)) else (some false)) else (some false)) = some r := h
 clear h
 by_cases c4 : a0 ≥ 0
 ·rw [if_pos c4] at H
  have c4b0 : decide (0 ≤ a0) = true := decide_eq_true c4; clear c4
  by_cases c5 : a0 ≤ 3
  ·rw [if_pos c5] at H
   have c5b0 : decide (a0 ≤ 3) = true := decide_eq_true c5; clear c5
   by_cases c6 : a1 ≥ 0
   ·rw [if_pos c6] at H
    have c6b0 : decide (0 ≤ a1) = true := decide_eq_true c6; clear c6
    by_cases c7 : a1 ≤ 6
    ·rw [if_pos c7] at H
     have c7b0 : decide (a1 ≤ 6) = true := decide_eq_true c7; clear c7
     by_cases c8 : a2 ≥ 0
     ·rw [if_pos c8] at H
      have c8b0 : decide (0 ≤ a2) = true := decide_eq_true c8; clear c8
      by_cases c9 : 0 ≤ a1
      ·rw [if_pos c9] at H
       have c9b0 := eq_true c9; have c9b1 : decide (0 ≤ a1) = true := decide_eq_true c9; clear c9
       obtain ⟨ji10, hji10⟩ : ∃ j_ : Int, (shl .i64 1 a1) = j_ := ⟨_, rfl⟩
       replace H : (if a2 < (ji10) then (if a0 = 0 then (some (a2 == 0)) else (some true)) else (some false)) = some r := by first | (rw [hji10] at H; exact H) | (simp only [hji10] at H ⊢; exact H)
       have hji10_ : (IntKind.i64.wrap (1 * 2 ^ min a1.toNat 64)) = ji10 := hji10; have hji10z : a1 ≤ 64 → (IntKind.i64.wrap (1 * 2 ^ a1.toNat)) = ji10 := shl_small hji10
       have hji10u : (IntKind.i64.wrap (2 ^ min a1.toNat 64)) = ji10 := by have h_ := hji10_; rw [Int.one_mul] at h_; exact h_
       have hji10v : a1 ≤ 64 → (IntKind.i64.wrap (2 ^ a1.toNat)) = ji10 := fun hle_ => by have h_ := hji10z hle_; rw [Int.one_mul] at h_; exact h_
       have hji10y : (wrap64 (1 * 2 ^ min a1.toNat 64)) = ji10 := (i64_w _).symm.trans hji10_
       have hji10x : a1 ≤ 64 → (wrap64 (1 * 2 ^ a1.toNat)) = ji10 := fun h_ => (i64_w _).symm.trans (hji10z h_)
       by_cases c11 : a2 < (ji10)
       ·rw [if_pos c11] at H
        have c11b0 : decide (a2 < (ji10)) = true := decide_eq_true c11; clear c11
        by_cases c12 : a0 = 0
        ·rw [if_pos c12] at H
         have c12b0 : (a0 == 0) = true := beq_iff_eq.mpr c12; have c12b1 : (a0 != 0) = false := bne_eq_false_iff_eq.mpr c12; clear c12; obtain rfl := Option.some.inj H
         go_enter Try.func75, Try.ntmps75
         go_wp2
         go_ret
         exact ⟨by first | rfl | (simp; done) | (simp only [← hji10] <;> (first | rfl | simp)) | (simp [*]; done), dwA⟩
        ·rw [if_neg c12] at H
         have c12b0 : (a0 == 0) = false := beq_eq_false_iff_ne.mpr c12; have c12b1 : (a0 != 0) = true := bne_iff_ne.mpr c12; obtain rfl := Option.some.inj H
         go_enter Try.func75, Try.ntmps75
         go_wp2
         go_ret
         exact ⟨by first | rfl | (simp; done) | (simp only [← hji10] <;> (first | rfl | simp)) | (simp [*]; done), dwA⟩
       ·rw [if_neg c11] at H
        have c11b0 : decide (a2 < (ji10)) = false := decide_eq_false c11; clear c11; obtain rfl := Option.some.inj H
        go_enter Try.func75, Try.ntmps75
        go_wp2
        go_ret
        exact ⟨by first | rfl | (simp; done) | (simp only [← hji10] <;> (first | rfl | simp)) | (simp [*]; done), dwA⟩
      ·rw [if_neg c9] at H
       exact absurd H (by simp)
     ·rw [if_neg c8] at H
      have c8b0 : decide (0 ≤ a2) = false := decide_eq_false c8; clear c8; obtain rfl := Option.some.inj H
      go_enter Try.func75, Try.ntmps75
      go_wp2
      go_ret
      exact ⟨eqA, dwA⟩
    ·rw [if_neg c7] at H
     have c7b0 : decide (a1 ≤ 6) = false := decide_eq_false c7; clear c7; obtain rfl := Option.some.inj H
     go_enter Try.func75, Try.ntmps75
     go_wp2
     go_ret
     exact ⟨eqA, dwA⟩
   ·rw [if_neg c6] at H
    have c6b0 : decide (0 ≤ a1) = false := decide_eq_false c6; clear c6; obtain rfl := Option.some.inj H
    go_enter Try.func75, Try.ntmps75
    go_wp2
    go_ret
    exact ⟨eqA, dwA⟩
  ·rw [if_neg c5] at H
   have c5b0 : decide (a0 ≤ 3) = false := decide_eq_false c5; clear c5; obtain rfl := Option.some.inj H
   go_enter Try.func75, Try.ntmps75
   go_wp2
   go_ret
   exact ⟨eqA, dwA⟩
 ·rw [if_neg c4] at H
  have c4b0 : decide (0 ≤ a0) = false := decide_eq_false c4; clear c4; obtain rfl := Option.some.inj H
  go_enter Try.func75, Try.ntmps75
  go_wp2
  go_ret
  exact ⟨eqA, dwA⟩
/-! ### circuit_turned: function 117 -/
def circuit_turned.f (a0 : Int) : Option (Int) := if a0 = 4 then (some 1) else (if a0 = 5 then (some 2) else (if a0 = 6 then (some 3) else (some 0)))
set_option maxHeartbeats 8000000 in
set_option maxRecDepth 100000 in
theorem circuit_turned.calls (a0 : Int) (r : Int) (w : World) (h : circuit_turned.f a0 = some r) :
  Calls Try.prog 117 #[.int .i64 a0] w fun e w' => e = .returned (.int .i64 r) ∧ Drawn0 w w' := by
 have H : (if a0 = 4 then (some 1) else (if a0 = 5 then (some 2) else (if a0 = 6 then (some 3) else (some 0)))) = some r := h
 clear h
 by_cases c2 : a0 = 4
 ·rw [if_pos c2] at H
  have c2b0 : (a0 == 4) = true := beq_iff_eq.mpr c2; have c2b1 : (a0 != 4) = false := bne_eq_false_iff_eq.mpr c2; clear c2; obtain rfl := Option.some.inj H
  go_enter Try.func117, Try.ntmps117
  go_wp2
  go_ret
  exact ⟨eqA, dwA⟩
 ·rw [if_neg c2] at H
  have c2b0 : (a0 == 4) = false := beq_eq_false_iff_ne.mpr c2; have c2b1 : (a0 != 4) = true := bne_iff_ne.mpr c2
  by_cases c3 : a0 = 5
  ·rw [if_pos c3] at H
   have c3b0 : (a0 == 5) = true := beq_iff_eq.mpr c3; have c3b1 : (a0 != 5) = false := bne_eq_false_iff_eq.mpr c3; clear c3; obtain rfl := Option.some.inj H
   go_enter Try.func117, Try.ntmps117
   go_wp2
   go_ret
   exact ⟨eqA, dwA⟩
  ·rw [if_neg c3] at H
   have c3b0 : (a0 == 5) = false := beq_eq_false_iff_ne.mpr c3; have c3b1 : (a0 != 5) = true := bne_iff_ne.mpr c3
   by_cases c4 : a0 = 6
   ·rw [if_pos c4] at H
    have c4b0 : (a0 == 6) = true := beq_iff_eq.mpr c4; have c4b1 : (a0 != 6) = false := bne_eq_false_iff_eq.mpr c4; clear c4; obtain rfl := Option.some.inj H
    go_enter Try.func117, Try.ntmps117
    go_wp2
    go_ret
    exact ⟨eqA, dwA⟩
   ·rw [if_neg c4] at H
    have c4b0 : (a0 == 6) = false := beq_eq_false_iff_ne.mpr c4; have c4b1 : (a0 != 6) = true := bne_iff_ne.mpr c4; obtain rfl := Option.some.inj H
    go_enter Try.func117, Try.ntmps117
    go_wp2
    go_ret
    exact ⟨eqA, dwA⟩
end Go.Proofs.Ythiiodgpdoljoaa.PLw
namespace Go.Proofs.Ythiiodgpdoljoaa.PLw
open Go.RowKit Go.Proofs.YthiiodgpdoljoaaW.PrintWords Go.Proofs.YthiiodgpdoljoaaW.PrintLast Go.Proofs.YthiiodgpdoljoaaW.PrintMore
attribute [local go_sem] max2_int min2_int max_two min_two max_three min_three max_four min_four   -- for this text's walks alone
set_option linter.unusedVariables false
set_option linter.unusedSimpArgs false
/-! ### circuit_needs: function 121 -/
mutual
def circuit_needs.j0 : Nat → Bool → Bool → Bool → Int → Bool → Option (Bool × Bool × Bool)
 | 0, _, _, _, _, _ => none
 | k + 1, x2, x3, x4, x5, x8 => if x8 = true then (some (true, true, x4)) else (if x5 = 8 then (some (true, x3, x4)) else (if x5 = 4 then (circuit_needs.j1 k x2 x3 x4 x5 (x5 == 4)) else (if x5 = 5 then (circuit_needs.j1 k x2 x3 x4 x5 (x5 == 5)) else (circuit_needs.j1 k x2 x3 x4 x5 (x5 == 6)))))
def circuit_needs.j1 : Nat → Bool → Bool → Bool → Int → Bool → Option (Bool × Bool × Bool)
 | 0, _, _, _, _, _ => none
 | k + 1, x2, x3, x4, x5, x13 => if x13 = true then (some (x2, true, true)) else (if x5 = 3 then (some (x2, true, x4)) else (some (x2, x3, x4)))
end
def circuit_needs.f (k : Nat) (a0 : Int) : Option (Bool × Bool × Bool) := if a0 = 7 then (some (true, true, true)) else (if a0 = 1 then (circuit_needs.j0 k false false false a0 (a0 == 1)) else (circuit_needs.j0 k false false false a0 (a0 == 2)))
theorem circuit_needs.mono_l : ∀ k, (∀ y0 y1 y2 y3 y4, LeO (circuit_needs.j0 k y0 y1 y2 y3 y4) (circuit_needs.j0 (k + 1) y0 y1 y2 y3 y4)) ∧ (∀ y0 y1 y2 y3 y4, LeO (circuit_needs.j1 k y0 y1 y2 y3 y4) (circuit_needs.j1 (k + 1) y0 y1 y2 y3 y4))
 | 0 => ⟨fun _ _ _ _ _ r h => by simp [circuit_needs.j0] at h, fun _ _ _ _ _ r h => by simp [circuit_needs.j1] at h⟩
 | k + 1 => by
  obtain ⟨ih0, ih1⟩ := circuit_needs.mono_l k
  refine ⟨?_, ?_⟩
  ·intro y0 y1 y2 y3 y4
   unfold circuit_needs.j0
   repeat' first
   | (with_reducible exact ih0 _ _ _ _ _)
   | (with_reducible exact ih1 _ _ _ _ _)
   | (with_reducible exact LeO.refl _)
   | (with_reducible exact LeO.none _)
   | (with_reducible refine LeO.ite ?_ ?_)
   | (with_reducible refine LeO.bind ?_ (fun _ => ?_))
   | exact ih0 _ _ _ _ _
   | exact ih1 _ _ _ _ _
   | exact LeO.none _
   | refine LeO.ite ?_ ?_
   | refine LeO.bind ?_ (fun _ => ?_)
  ·intro y0 y1 y2 y3 y4
   unfold circuit_needs.j1
   repeat' first
   | (with_reducible exact ih0 _ _ _ _ _)
   | (with_reducible exact ih1 _ _ _ _ _)
   | (with_reducible exact LeO.refl _)
   | (with_reducible exact LeO.none _)
   | (with_reducible refine LeO.ite ?_ ?_)
   | (with_reducible refine LeO.bind ?_ (fun _ => ?_))
   | exact ih0 _ _ _ _ _
   | exact ih1 _ _ _ _ _
   | exact LeO.none _
   | refine LeO.ite ?_ ?_
   | refine LeO.bind ?_ (fun _ => ?_)
theorem circuit_needs.mono : ∀ a0 k, LeO (circuit_needs.f k a0) (circuit_needs.f (k + 1) a0) := by
 intro a0 k
 obtain ⟨ih0, ih1⟩ := circuit_needs.mono_l k
 unfold circuit_needs.f
 repeat' first
   | (with_reducible exact ih0 _ _ _ _ _)
   | (with_reducible exact ih1 _ _ _ _ _)
   | (with_reducible exact LeO.refl _)
   | (with_reducible exact LeO.none _)
   | (with_reducible refine LeO.ite ?_ ?_)
   | (with_reducible refine LeO.bind ?_ (fun _ => ?_))
   | exact ih0 _ _ _ _ _
   | exact ih1 _ _ _ _ _
   | exact LeO.none _
   | refine LeO.ite ?_ ?_
   | refine LeO.bind ?_ (fun _ => ?_)
set_option maxHeartbeats 8000000 in
set_option maxRecDepth 100000 in
theorem circuit_needs.calls (k : Nat) (a0 : Int) (r1 : Bool) (r2 : Bool) (r3 : Bool) (w : World) (h : circuit_needs.f k a0 = some (r1, r2, r3)) :
  Calls Try.prog 121 #[.int .i64 a0] w fun e w' => e = .returned (.tuple #[.bool r1, .bool r2, .bool r3]) ∧ Drawn0 w w' := by
 have H : (if a0 = 7 then (some (true, true, true)) else (if a0 = 1 then (circuit_needs.j0 k false false false a0 (a0 == 1)) else (circuit_needs.j0 k false false false a0 (a0 == 2)))) = some (r1, r2, r3) := h
 clear h
 by_cases c2 : a0 = 7
 ·rw [if_pos c2] at H
  have c2b0 : (a0 == 7) = true := beq_iff_eq.mpr c2; have c2b1 : (a0 != 7) = false := bne_eq_false_iff_eq.mpr c2; clear c2
  simp only [Option.some.injEq, Prod.mk.injEq] at H
  obtain ⟨rfl, rfl, rfl⟩ := H
  go_enter Try.func121, Try.ntmps121
  go_wp2
  go_ret3
  exact ⟨eqA, dwA⟩
 ·rw [if_neg c2] at H
  have c2b0 : (a0 == 7) = false := beq_eq_false_iff_ne.mpr c2; have c2b1 : (a0 != 7) = true := bne_iff_ne.mpr c2; have HC3 := Aside0.mk H; clear H
  go_enter Try.func121, Try.ntmps121
  go_upto_if 8 with (fail)
  go_cut [8] (fun v8 wc => ∃ (kq : Nat) (x8_2 : Bool), v8 = .bool x8_2 ∧ Aside0 (circuit_needs.j0 kq false false false a0 x8_2 = some (r1, r2, r3)) ∧ Aside0 (kq ≤ k) ∧ Drawn0 w wc)
  case first =>
   have H := HC3.out; clear HC3
   by_cases c4 : a0 = 1
   ·rw [if_pos c4] at H
    have c4b0 : (a0 == 1) = true := beq_iff_eq.mpr c4; have c4b1 : (a0 != 1) = false := bne_eq_false_iff_eq.mpr c4; clear c4
    (first | rw [c4b0] | (simp only [i64_w, i32_w]; rw [c4b0]) | skip)
    have H' := Aside0.mk H; clear H
    go_wp2
    go_meet
    case rel => exact ⟨_, ((a0 == 1)), eqA, H', ⟨omA⟩, dwA⟩
   ·rw [if_neg c4] at H
    have c4b0 : (a0 == 1) = false := beq_eq_false_iff_ne.mpr c4; have c4b1 : (a0 != 1) = true := bne_iff_ne.mpr c4
    (first | rw [c4b0] | (simp only [i64_w, i32_w]; rw [c4b0]) | skip)
    have H' := Aside0.mk H; clear H
    go_wp2
    go_meet
    case rel => exact ⟨_, ((a0 == 2)), eqA, H', ⟨omA⟩, dwA⟩
  case rest =>
   clear HC3; (try clear c1); (try clear c2); (try clear c2b0); (try clear c2b1); (try clear p2); (try clear c4); (try clear c4b0); (try clear c4b1)
   obtain ⟨kq, x8_2, rfl, HA, HJ2, ⟨mc2, rfl⟩⟩ := hcut
   cases kq with
   | zero => exact absurd HA.out (by simp [circuit_needs.j0])
   | succ kj2 =>
    have H := HA.out; clear HA
    simp only [circuit_needs.j0] at H
    by_cases c5 : x8_2 = true
    ·subst c5
     have H1 : (some (true, true, false)) = some (r1, r2, r3) := by rw [if_pos rfl] at H; exact H
     clear H; have H := H1; clear H1
     simp only [Option.some.injEq, Prod.mk.injEq] at H
     obtain ⟨rfl, rfl, rfl⟩ := H
     go_wp2
     go_ret3
     exact ⟨eqA, dwA⟩
    ·replace c5 := Bool.eq_false_iff.mpr c5; subst c5
     have H1 : (if a0 = 8 then (some (true, false, false)) else (if a0 = 4 then (circuit_needs.j1 kj2 false false false a0 (a0 == 4)) else (if a0 = 5 then (circuit_needs.j1 kj2 false false false a0 (a0 == 5)) else (circuit_needs.j1 kj2 false false false a0 (a0 == 6))))) = some (r1, r2, r3) := by rw [if_neg (show ¬ (false = true) by decide)] at H; exact H
     clear H; have H := H1; clear H1
     by_cases c6 : a0 = 8
     ·rw [if_pos c6] at H
      have c6b0 : (a0 == 8) = true := beq_iff_eq.mpr c6; have c6b1 : (a0 != 8) = false := bne_eq_false_iff_eq.mpr c6; clear c6
      simp only [Option.some.injEq, Prod.mk.injEq] at H
      obtain ⟨rfl, rfl, rfl⟩ := H
      go_wp2
      go_ret3
      exact ⟨eqA, dwA⟩
     ·rw [if_neg c6] at H
      have c6b0 : (a0 == 8) = false := beq_eq_false_iff_ne.mpr c6; have c6b1 : (a0 != 8) = true := bne_iff_ne.mpr c6; have HC7 := Aside0.mk H; clear H
      go_upto_if 13 with (fail)
      go_cut [13] (fun v13 wc => ∃ (kq : Nat) (x13_6 : Bool), v13 = .bool x13_6 ∧ Aside0 (circuit_needs.j1 kq false false false a0 x13_6 = some (r1, r2, r3)) ∧ Aside0 (kq ≤ kj2) ∧ Drawn0 w wc)
      case first =>
       have H := HC7.out; clear HC7
       by_cases c8 : a0 = 4
       ·rw [if_pos c8] at H
        have c8b0 : (a0 == 4) = true := beq_iff_eq.mpr c8; have c8b1 : (a0 != 4) = false := bne_eq_false_iff_eq.mpr c8; clear c8
        (first | rw [c8b0] | (simp only [i64_w, i32_w]; rw [c8b0]) | skip)
        have H' := Aside0.mk H; clear H
        go_wp2
        go_meet
        case rel => exact ⟨_, ((a0 == 4)), eqA, H', ⟨by have := HJ2.out; first | omega | exact Nat.le_refl _⟩, dwA⟩
       ·rw [if_neg c8] at H
        have c8b0 : (a0 == 4) = false := beq_eq_false_iff_ne.mpr c8; have c8b1 : (a0 != 4) = true := bne_iff_ne.mpr c8
        (first | rw [c8b0] | (simp only [i64_w, i32_w]; rw [c8b0]) | skip)
        by_cases c9 : a0 = 5
        ·rw [if_pos c9] at H
         have c9b0 : (a0 == 5) = true := beq_iff_eq.mpr c9; have c9b1 : (a0 != 5) = false := bne_eq_false_iff_eq.mpr c9; clear c9; have H' := Aside0.mk H; clear H
         go_wp2
         go_meet
         case rel => exact ⟨_, ((a0 == 5)), eqA, H', ⟨by have := HJ2.out; first | omega | exact Nat.le_refl _⟩, dwA⟩
        ·rw [if_neg c9] at H
         have c9b0 : (a0 == 5) = false := beq_eq_false_iff_ne.mpr c9; have c9b1 : (a0 != 5) = true := bne_iff_ne.mpr c9; have H' := Aside0.mk H; clear H
         go_wp2
         go_meet
         case rel => exact ⟨_, ((a0 == 6)), eqA, H', ⟨by have := HJ2.out; first | omega | exact Nat.le_refl _⟩, dwA⟩
      case rest =>
       clear HC7; (try clear c1); (try clear c2); (try clear c2b0); (try clear c2b1); (try clear p2); (try clear c4); (try clear c4b0); (try clear c4b1); (try clear c5); (try clear c6); (try clear c6b0); (try clear c6b1); (try clear c8); (try clear c8b0); (try clear c8b1); (try clear c9); (try clear c9b0); (try clear c9b1); (try clear p2)
       obtain ⟨kq, x13_6, rfl, HA, HJ6, ⟨mc6, rfl⟩⟩ := hcut
       cases kq with
       | zero => exact absurd HA.out (by simp [circuit_needs.j1])
       | succ kj6 =>
        have H := HA.out; clear HA
        simp only [circuit_needs.j1] at H
        by_cases c10 : x13_6 = true
        ·subst c10
         have H1 : (some (false, true, true)) = some (r1, r2, r3) := by rw [if_pos rfl] at H; exact H
         clear H; have H := H1; clear H1
         simp only [Option.some.injEq, Prod.mk.injEq] at H
         obtain ⟨rfl, rfl, rfl⟩ := H
         go_wp2
         go_ret3
         exact ⟨eqA, dwA⟩
        ·replace c10 := Bool.eq_false_iff.mpr c10; subst c10
         have H1 : (if a0 = 3 then (some (false, true, false)) else (some (false, false, false))) = some (r1, r2, r3) := by rw [if_neg (show ¬ (false = true) by decide)] at H; exact H
         clear H; have H := H1; clear H1
         by_cases c11 : a0 = 3
         ·rw [if_pos c11] at H
          have c11b0 : (a0 == 3) = true := beq_iff_eq.mpr c11; have c11b1 : (a0 != 3) = false := bne_eq_false_iff_eq.mpr c11; clear c11
          simp only [Option.some.injEq, Prod.mk.injEq] at H
          obtain ⟨rfl, rfl, rfl⟩ := H
          go_wp2
          go_ret3
          exact ⟨eqA, dwA⟩
         ·rw [if_neg c11] at H
          have c11b0 : (a0 == 3) = false := beq_eq_false_iff_ne.mpr c11; have c11b1 : (a0 != 3) = true := bne_iff_ne.mpr c11
          simp only [Option.some.injEq, Prod.mk.injEq] at H
          obtain ⟨rfl, rfl, rfl⟩ := H
          go_wp2
          go_ret3
          exact ⟨eqA, dwA⟩
end Go.Proofs.Ythiiodgpdoljoaa.PLw
namespace Go.Proofs.Ythiiodgpdoljoaa.PLw
open Go.RowKit Go.Proofs.YthiiodgpdoljoaaW.PrintWords Go.Proofs.YthiiodgpdoljoaaW.PrintLast Go.Proofs.YthiiodgpdoljoaaW.PrintMore
attribute [local go_sem] max2_int min2_int max_two min_two max_three min_three max_four min_four   -- for this text's walks alone
set_option linter.unusedVariables false
set_option linter.unusedSimpArgs false
/-! ### circuit_gate: function 94 -/
mutual
def circuit_gate.j3 : Nat → Int → Bool → Int → Int → Int → Int → Int → List (S105) → Int → Int → Int → Int → Int → Option (Int × Int)
 | 0, _, _, _, _, _, _, _, _, _, _, _, _, _ => none
 | k + 1, x2, x9, x140000, x140001, x140002, x140003, x140004, x140005, x141000, x141001, x141002, x141003, x141004 => if x9 = true then (circuit_gate.j4 k (wrap64 (x2 + 1)) x140000 x140001 x140002 x140003 x140004 x140005 x141000 x141001 x141002 x141003 x141004) else (circuit_gate.j4 k x2 x140000 x140001 x140002 x140003 x140004 x140005 x141000 x141001 x141002 x141003 x141004)
def circuit_gate.j4 : Nat → Int → Int → Int → Int → Int → Int → List (S105) → Int → Int → Int → Int → Int → Option (Int × Int)
 | 0, _, _, _, _, _, _, _, _, _, _, _, _ => none
 | k + 1, x2, x140000, x140001, x140002, x140003, x140004, x140005, x141000, x141001, x141002, x141003, x141004 => if x141000 = 7 then (if 0 ≤ x140002 then (if (wrap64 (x2 + 1)) > (shl .i64 1 x140002) then (some (0, 2)) else (some (wrap64 (x2 + 1), 0))) else (none)) else (if 0 ≤ x140002 then (if x2 > (shl .i64 1 x140002) then (some (0, 2)) else (some (x2, 0))) else (none))
def circuit_gate.j0 : Nat → Int → Bool → Bool → Int → Bool → Int → Int → Int → Int → Int → List (S105) → Int → Int → Int → Int → Int → Option (Int × Int)
 | 0, _, _, _, _, _, _, _, _, _, _, _, _, _, _, _, _ => none
 | k + 1, x2, x8, x9, x11, x22, x140000, x140001, x140002, x140003, x140004, x140005, x141000, x141001, x141002, x141003, x141004 => if x22 = true then (some (0, 3)) else (if x141002 < 0 then (circuit_gate.j1 k x2 x9 x11 true x140000 x140001 x140002 x140003 x140004 x140005 x141000 x141001 x141002 x141003 x141004) else (if x141002 ≥ x2 then (circuit_gate.j1 k x2 x9 x11 true x140000 x140001 x140002 x140003 x140004 x140005 x141000 x141001 x141002 x141003 x141004) else (if x141003 < 0 then (circuit_gate.j1 k x2 x9 x11 true x140000 x140001 x140002 x140003 x140004 x140005 x141000 x141001 x141002 x141003 x141004) else (if x8 = true then (circuit_gate.j1 k x2 x9 x11 (decide (x141003 ≥ x2)) x140000 x140001 x140002 x140003 x140004 x140005 x141000 x141001 x141002 x141003 x141004) else (circuit_gate.j1 k x2 x9 x11 false x140000 x140001 x140002 x140003 x140004 x140005 x141000 x141001 x141002 x141003 x141004)))))
def circuit_gate.j1 : Nat → Int → Bool → Int → Bool → Int → Int → Int → Int → Int → List (S105) → Int → Int → Int → Int → Int → Option (Int × Int)
 | 0, _, _, _, _, _, _, _, _, _, _, _, _, _, _, _ => none
 | k + 1, x2, x9, x11, x58, x140000, x140001, x140002, x140003, x140004, x140005, x141000, x141001, x141002, x141003, x141004 => if x58 = true then (some (0, 4)) else (if x11 = 0 then (circuit_gate.j2 k x2 x9 false x140000 x140001 x140002 x140003 x140004 x140005 x141000 x141001 x141002 x141003 x141004) else ((turn_Fits.f x11 x140000 x141004).bind fun t145 => (circuit_gate.j2 k x2 x9 (!t145) x140000 x140001 x140002 x140003 x140004 x140005 x141000 x141001 x141002 x141003 x141004)))
def circuit_gate.j2 : Nat → Int → Bool → Bool → Int → Int → Int → Int → Int → List (S105) → Int → Int → Int → Int → Int → Option (Int × Int)
 | 0, _, _, _, _, _, _, _, _, _, _, _, _, _, _ => none
 | k + 1, x2, x9, x82, x140000, x140001, x140002, x140003, x140004, x140005, x141000, x141001, x141002, x141003, x141004 => if x82 = true then (some (0, 1)) else (if x9 = true then (if x141001 = x2 then (if x141000 = 7 then (if x141004 = (wrap64 (x2 + 1)) then (circuit_gate.j3 k x2 x9 x140000 x140001 x140002 x140003 x140004 x140005 x141000 x141001 x141002 x141003 x141004) else (some (0, 3))) else (circuit_gate.j3 k x2 x9 x140000 x140001 x140002 x140003 x140004 x140005 x141000 x141001 x141002 x141003 x141004)) else (some (0, 3))) else (if x141000 = 7 then (if x141004 = (wrap64 (x2 + 1)) then (circuit_gate.j3 k x2 x9 x140000 x140001 x140002 x140003 x140004 x140005 x141000 x141001 x141002 x141003 x141004) else (some (0, 3))) else (circuit_gate.j3 k x2 x9 x140000 x140001 x140002 x140003 x140004 x140005 x141000 x141001 x141002 x141003 x141004)))
end
def circuit_gate.f (k : Nat) (a0_0 : Int) (a0_1 : Int) (a0_2 : Int) (a0_3 : Int) (a0_4 : Int) (l0_5 : List (S105)) (a1_0 : Int) (a1_1 : Int) (a1_2 : Int) (a1_3 : Int) (a1_4 : Int) (a2 : Int) : Option (Int × Int) := (circuit_needs.f k a1_0).bind fun bt141 => ((circuit_turned.f a1_0).bind fun t144 => (if a1_0 < 1 then (circuit_gate.j0 k a2 bt141.1 bt141.2.1 t144 true a0_0 a0_1 a0_2 a0_3 a0_4 l0_5 a1_0 a1_1 a1_2 a1_3 a1_4) else (if a1_0 > 8 then (circuit_gate.j0 k a2 bt141.1 bt141.2.1 t144 true a0_0 a0_1 a0_2 a0_3 a0_4 l0_5 a1_0 a1_1 a1_2 a1_3 a1_4) else (if bt141.1 = true then (if bt141.2.1 = true then (if bt141.2.2 = true then (circuit_gate.j0 k a2 bt141.1 bt141.2.1 t144 false a0_0 a0_1 a0_2 a0_3 a0_4 l0_5 a1_0 a1_1 a1_2 a1_3 a1_4) else (circuit_gate.j0 k a2 bt141.1 bt141.2.1 t144 (a1_4 != 0) a0_0 a0_1 a0_2 a0_3 a0_4 l0_5 a1_0 a1_1 a1_2 a1_3 a1_4)) else (if a1_1 = 0 then (if bt141.2.2 = true then (circuit_gate.j0 k a2 bt141.1 bt141.2.1 t144 false a0_0 a0_1 a0_2 a0_3 a0_4 l0_5 a1_0 a1_1 a1_2 a1_3 a1_4) else (circuit_gate.j0 k a2 bt141.1 bt141.2.1 t144 (a1_4 != 0) a0_0 a0_1 a0_2 a0_3 a0_4 l0_5 a1_0 a1_1 a1_2 a1_3 a1_4)) else (circuit_gate.j0 k a2 bt141.1 bt141.2.1 t144 true a0_0 a0_1 a0_2 a0_3 a0_4 l0_5 a1_0 a1_1 a1_2 a1_3 a1_4))) else (if a1_3 = 0 then (if bt141.2.1 = true then (if bt141.2.2 = true then (circuit_gate.j0 k a2 bt141.1 bt141.2.1 t144 false a0_0 a0_1 a0_2 a0_3 a0_4 l0_5 a1_0 a1_1 a1_2 a1_3 a1_4) else (circuit_gate.j0 k a2 bt141.1 bt141.2.1 t144 (a1_4 != 0) a0_0 a0_1 a0_2 a0_3 a0_4 l0_5 a1_0 a1_1 a1_2 a1_3 a1_4)) else (if a1_1 = 0 then (if bt141.2.2 = true then (circuit_gate.j0 k a2 bt141.1 bt141.2.1 t144 false a0_0 a0_1 a0_2 a0_3 a0_4 l0_5 a1_0 a1_1 a1_2 a1_3 a1_4) else (circuit_gate.j0 k a2 bt141.1 bt141.2.1 t144 (a1_4 != 0) a0_0 a0_1 a0_2 a0_3 a0_4 l0_5 a1_0 a1_1 a1_2 a1_3 a1_4)) else (circuit_gate.j0 k a2 bt141.1 bt141.2.1 t144 true a0_0 a0_1 a0_2 a0_3 a0_4 l0_5 a1_0 a1_1 a1_2 a1_3 a1_4))) else (circuit_gate.j0 k a2 bt141.1 bt141.2.1 t144 true a0_0 a0_1 a0_2 a0_3 a0_4 l0_5 a1_0 a1_1 a1_2 a1_3 a1_4))))))
theorem circuit_gate.mono_l : ∀ k, (∀ y0 y1 y2 y3 y4 y5 y6 y7 y8 y9 y10 y11 y12, LeO (circuit_gate.j3 k y0 y1 y2 y3 y4 y5 y6 y7 y8 y9 y10 y11 y12) (circuit_gate.j3 (k + 1) y0 y1 y2 y3 y4 y5 y6 y7 y8 y9 y10 y11 y12)) ∧ (∀ y0 y1 y2 y3 y4 y5 y6 y7 y8 y9 y10 y11, LeO (circuit_gate.j4 k y0 y1 y2 y3 y4 y5 y6 y7 y8 y9 y10 y11) (circuit_gate.j4 (k + 1) y0 y1 y2 y3 y4 y5 y6 y7 y8 y9 y10 y11)) ∧ (∀ y0 y1 y2 y3 y4 y5 y6 y7 y8 y9 y10 y11 y12 y13 y14 y15, LeO (circuit_gate.j0 k y0 y1 y2 y3 y4 y5 y6 y7 y8 y9 y10 y11 y12 y13 y14 y15) (circuit_gate.j0 (k + 1) y0 y1 y2 y3 y4 y5 y6 y7 y8 y9 y10 y11 y12 y13 y14 y15)) ∧ (∀ y0 y1 y2 y3 y4 y5 y6 y7 y8 y9 y10 y11 y12 y13 y14, LeO (circuit_gate.j1 k y0 y1 y2 y3 y4 y5 y6 y7 y8 y9 y10 y11 y12 y13 y14) (circuit_gate.j1 (k + 1) y0 y1 y2 y3 y4 y5 y6 y7 y8 y9 y10 y11 y12 y13 y14)) ∧ (∀ y0 y1 y2 y3 y4 y5 y6 y7 y8 y9 y10 y11 y12 y13, LeO (circuit_gate.j2 k y0 y1 y2 y3 y4 y5 y6 y7 y8 y9 y10 y11 y12 y13) (circuit_gate.j2 (k + 1) y0 y1 y2 y3 y4 y5 y6 y7 y8 y9 y10 y11 y12 y13))
 | 0 => ⟨fun _ _ _ _ _ _ _ _ _ _ _ _ _ r h => by simp [circuit_gate.j3] at h, fun _ _ _ _ _ _ _ _ _ _ _ _ r h => by simp [circuit_gate.j4] at h, fun _ _ _ _ _ _ _ _ _ _ _ _ _ _ _ _ r h => by simp [circuit_gate.j0] at h, fun _ _ _ _ _ _ _ _ _ _ _ _ _ _ _ r h => by simp [circuit_gate.j1] at h, fun _ _ _ _ _ _ _ _ _ _ _ _ _ _ r h => by simp [circuit_gate.j2] at h⟩
 | k + 1 => by
  obtain ⟨ih0, ih1, ih2, ih3, ih4⟩ := circuit_gate.mono_l k
  refine ⟨?_, ?_, ?_, ?_, ?_⟩
  ·intro y0 y1 y2 y3 y4 y5 y6 y7 y8 y9 y10 y11 y12
   unfold circuit_gate.j3
   repeat' first
   | (with_reducible exact ih0 _ _ _ _ _ _ _ _ _ _ _ _ _)
   | (with_reducible exact ih1 _ _ _ _ _ _ _ _ _ _ _ _)
   | (with_reducible exact ih2 _ _ _ _ _ _ _ _ _ _ _ _ _ _ _ _)
   | (with_reducible exact ih3 _ _ _ _ _ _ _ _ _ _ _ _ _ _ _)
   | (with_reducible exact ih4 _ _ _ _ _ _ _ _ _ _ _ _ _ _)
   | (with_reducible exact circuit_needs.mono _ _)
   | (with_reducible exact LeO.refl _)
   | (with_reducible exact LeO.none _)
   | (with_reducible refine LeO.ite ?_ ?_)
   | (with_reducible refine LeO.bind ?_ (fun _ => ?_))
   | exact ih0 _ _ _ _ _ _ _ _ _ _ _ _ _
   | exact ih1 _ _ _ _ _ _ _ _ _ _ _ _
   | exact ih2 _ _ _ _ _ _ _ _ _ _ _ _ _ _ _ _
   | exact ih3 _ _ _ _ _ _ _ _ _ _ _ _ _ _ _
   | exact ih4 _ _ _ _ _ _ _ _ _ _ _ _ _ _
   | exact circuit_needs.mono _ _
   | exact LeO.none _
   | refine LeO.ite ?_ ?_
   | refine LeO.bind ?_ (fun _ => ?_)
  ·intro y0 y1 y2 y3 y4 y5 y6 y7 y8 y9 y10 y11
   unfold circuit_gate.j4
   repeat' first
   | (with_reducible exact ih0 _ _ _ _ _ _ _ _ _ _ _ _ _)
   | (with_reducible exact ih1 _ _ _ _ _ _ _ _ _ _ _ _)
   | (with_reducible exact ih2 _ _ _ _ _ _ _ _ _ _ _ _ _ _ _ _)
   | (with_reducible exact ih3 _ _ _ _ _ _ _ _ _ _ _ _ _ _ _)
   | (with_reducible exact ih4 _ _ _ _ _ _ _ _ _ _ _ _ _ _)
   | (with_reducible exact circuit_needs.mono _ _)
   | (with_reducible exact LeO.refl _)
   | (with_reducible exact LeO.none _)
   | (with_reducible refine LeO.ite ?_ ?_)
   | (with_reducible refine LeO.bind ?_ (fun _ => ?_))
   | exact ih0 _ _ _ _ _ _ _ _ _ _ _ _ _
   | exact ih1 _ _ _ _ _ _ _ _ _ _ _ _
   | exact ih2 _ _ _ _ _ _ _ _ _ _ _ _ _ _ _ _
   | exact ih3 _ _ _ _ _ _ _ _ _ _ _ _ _ _ _
   | exact ih4 _ _ _ _ _ _ _ _ _ _ _ _ _ _
   | exact circuit_needs.mono _ _
   | exact LeO.none _
   | refine LeO.ite ?_ ?_
   | refine LeO.bind ?_ (fun _ => ?_)
  ·intro y0 y1 y2 y3 y4 y5 y6 y7 y8 y9 y10 y11 y12 y13 y14 y15
   unfold circuit_gate.j0
   repeat' first
   | (with_reducible exact ih0 _ _ _ _ _ _ _ _ _ _ _ _ _)
   | (with_reducible exact ih1 _ _ _ _ _ _ _ _ _ _ _ _)
   | (with_reducible exact ih2 _ _ _ _ _ _ _ _ _ _ _ _ _ _ _ _)
   | (with_reducible exact ih3 _ _ _ _ _ _ _ _ _ _ _ _ _ _ _)
   | (with_reducible exact ih4 _ _ _ _ _ _ _ _ _ _ _ _ _ _)
   | (with_reducible exact circuit_needs.mono _ _)
   | (with_reducible exact LeO.refl _)
   | (with_reducible exact LeO.none _)
   | (with_reducible refine LeO.ite ?_ ?_)
   | (with_reducible refine LeO.bind ?_ (fun _ => ?_))
   | exact ih0 _ _ _ _ _ _ _ _ _ _ _ _ _
   | exact ih1 _ _ _ _ _ _ _ _ _ _ _ _
   | exact ih2 _ _ _ _ _ _ _ _ _ _ _ _ _ _ _ _
   | exact ih3 _ _ _ _ _ _ _ _ _ _ _ _ _ _ _
   | exact ih4 _ _ _ _ _ _ _ _ _ _ _ _ _ _
   | exact circuit_needs.mono _ _
   | exact LeO.none _
   | refine LeO.ite ?_ ?_
   | refine LeO.bind ?_ (fun _ => ?_)
  ·intro y0 y1 y2 y3 y4 y5 y6 y7 y8 y9 y10 y11 y12 y13 y14
   unfold circuit_gate.j1
   repeat' first
   | (with_reducible exact ih0 _ _ _ _ _ _ _ _ _ _ _ _ _)
   | (with_reducible exact ih1 _ _ _ _ _ _ _ _ _ _ _ _)
   | (with_reducible exact ih2 _ _ _ _ _ _ _ _ _ _ _ _ _ _ _ _)
   | (with_reducible exact ih3 _ _ _ _ _ _ _ _ _ _ _ _ _ _ _)
   | (with_reducible exact ih4 _ _ _ _ _ _ _ _ _ _ _ _ _ _)
   | (with_reducible exact circuit_needs.mono _ _)
   | (with_reducible exact LeO.refl _)
   | (with_reducible exact LeO.none _)
   | (with_reducible refine LeO.ite ?_ ?_)
   | (with_reducible refine LeO.bind ?_ (fun _ => ?_))
   | exact ih0 _ _ _ _ _ _ _ _ _ _ _ _ _
   | exact ih1 _ _ _ _ _ _ _ _ _ _ _ _
   | exact ih2 _ _ _ _ _ _ _ _ _ _ _ _ _ _ _ _
   | exact ih3 _ _ _ _ _ _ _ _ _ _ _ _ _ _ _
   | exact ih4 _ _ _ _ _ _ _ _ _ _ _ _ _ _
   | exact circuit_needs.mono _ _
   | exact LeO.none _
   | refine LeO.ite ?_ ?_
   | refine LeO.bind ?_ (fun _ => ?_)
  ·intro y0 y1 y2 y3 y4 y5 y6 y7 y8 y9 y10 y11 y12 y13
   unfold circuit_gate.j2
   repeat' first
   | (with_reducible exact ih0 _ _ _ _ _ _ _ _ _ _ _ _ _)
   | (with_reducible exact ih1 _ _ _ _ _ _ _ _ _ _ _ _)
   | (with_reducible exact ih2 _ _ _ _ _ _ _ _ _ _ _ _ _ _ _ _)
   | (with_reducible exact ih3 _ _ _ _ _ _ _ _ _ _ _ _ _ _ _)
   | (with_reducible exact ih4 _ _ _ _ _ _ _ _ _ _ _ _ _ _)
   | (with_reducible exact circuit_needs.mono _ _)
   | (with_reducible exact LeO.refl _)
   | (with_reducible exact LeO.none _)
   | (with_reducible refine LeO.ite ?_ ?_)
   | (with_reducible refine LeO.bind ?_ (fun _ => ?_))
   | exact ih0 _ _ _ _ _ _ _ _ _ _ _ _ _
   | exact ih1 _ _ _ _ _ _ _ _ _ _ _ _
   | exact ih2 _ _ _ _ _ _ _ _ _ _ _ _ _ _ _ _
   | exact ih3 _ _ _ _ _ _ _ _ _ _ _ _ _ _ _
   | exact ih4 _ _ _ _ _ _ _ _ _ _ _ _ _ _
   | exact circuit_needs.mono _ _
   | exact LeO.none _
   | refine LeO.ite ?_ ?_
   | refine LeO.bind ?_ (fun _ => ?_)
theorem circuit_gate.mono : ∀ a0 a1 a2 a3 a4 a5 a6 a7 a8 a9 a10 a11 k, LeO (circuit_gate.f k a0 a1 a2 a3 a4 a5 a6 a7 a8 a9 a10 a11) (circuit_gate.f (k + 1) a0 a1 a2 a3 a4 a5 a6 a7 a8 a9 a10 a11) := by
 intro a0 a1 a2 a3 a4 a5 a6 a7 a8 a9 a10 a11 k
 obtain ⟨ih0, ih1, ih2, ih3, ih4⟩ := circuit_gate.mono_l k
 unfold circuit_gate.f
 repeat' first
   | (with_reducible exact ih0 _ _ _ _ _ _ _ _ _ _ _ _ _)
   | (with_reducible exact ih1 _ _ _ _ _ _ _ _ _ _ _ _)
   | (with_reducible exact ih2 _ _ _ _ _ _ _ _ _ _ _ _ _ _ _ _)
   | (with_reducible exact ih3 _ _ _ _ _ _ _ _ _ _ _ _ _ _ _)
   | (with_reducible exact ih4 _ _ _ _ _ _ _ _ _ _ _ _ _ _)
   | (with_reducible exact circuit_needs.mono _ _)
   | (with_reducible exact LeO.refl _)
   | (with_reducible exact LeO.none _)
   | (with_reducible refine LeO.ite ?_ ?_)
   | (with_reducible refine LeO.bind ?_ (fun _ => ?_))
   | exact ih0 _ _ _ _ _ _ _ _ _ _ _ _ _
   | exact ih1 _ _ _ _ _ _ _ _ _ _ _ _
   | exact ih2 _ _ _ _ _ _ _ _ _ _ _ _ _ _ _ _
   | exact ih3 _ _ _ _ _ _ _ _ _ _ _ _ _ _ _
   | exact ih4 _ _ _ _ _ _ _ _ _ _ _ _ _ _
   | exact circuit_needs.mono _ _
   | exact LeO.none _
   | refine LeO.ite ?_ ?_
   | refine LeO.bind ?_ (fun _ => ?_)
set_option maxHeartbeats 8000000 in
set_option maxRecDepth 100000 in
theorem circuit_gate.calls (k : Nat) (a0_0 : Int) (a0_1 : Int) (a0_2 : Int) (a0_3 : Int) (a0_4 : Int) (A0_5 : Option Addr) (c0_5 : Nat) (l0_5 : List (S105)) (a1_0 : Int) (a1_1 : Int) (a1_2 : Int) (a1_3 : Int) (a1_4 : Int) (a2 : Int) (r1 : Int) (r2 : Int) (w : World) (hr0_5 : Kd.C k105 w A0_5 l0_5.length l0_5) (hc0_5 : l0_5.length ≤ c0_5) (h : circuit_gate.f k a0_0 a0_1 a0_2 a0_3 a0_4 l0_5 a1_0 a1_1 a1_2 a1_3 a1_4 a2 = some (r1, r2)) :
  Calls Try.prog 94 #[.agg #[.int .i64 a0_0, .int .i64 a0_1, .int .i64 a0_2, .int .i64 a0_3, .int .i64 a0_4, .slice A0_5 l0_5.length c0_5], .agg #[.int .i64 a1_0, .int .i64 a1_1, .int .i64 a1_2, .int .i64 a1_3, .int .i64 a1_4], .int .i64 a2] w fun e w' => e = .returned (.tuple #[.int .i64 r1, .int .i64 r2]) ∧ Below w.heap.size w w' := by
 have hu24 := Try.underlying24; have hu105 := Try.underlying105; have HR0_5 := Aside0.mk hr0_5; have HC0_5 := Aside0.mk hc0_5; clear hr0_5 hc0_5; have HB := Aside0.mk (Below.refl w.heap.size w)
 have H : ((circuit_needs.f k a1_0).bind fun bt141 => ((circuit_turned.f a1_0).bind fun t144 => (if a1_0 < 1 then (circuit_gate.j0 k a2 bt141.1 bt141.2.1 t144 true a0_0 a0_1 a0_2 a0_3 a0_4 l0_5 a1_0 a1_1 a1_2 a1_3 a1_4) else (if a1_0 > 8 then (circuit_gate.j0 k a2 bt141.1 bt141.2.1 t144 true a0_0 a0_1 a0_2 a0_3 a0_4 l0_5 a1_0 a1_1 a1_2 a1_3 a1_4) else (if bt141.1 = true then (if bt141.2.1 = true then (if bt141.2.2 = true then (circuit_gate.j0 k a2 bt141.1 bt141.2.1 t144 false a0_0 a0_1 a0_2 a0_3 a0_4 l0_5 a1_0 a1_1 a1_2 a1_3 a1_4) else (circuit_gate.j0 k a2 bt141.1 bt141.2.1 t144 (a1_4 != 0) a0_0 a0_1 a0_2 a0_3 a0_4 l0_5 a1_0 a1_1 a1_2 a1_3 a1_4)) else (if a1_1 = 0 then (if bt141.2.2 = true then (circuit_gate.j0 k a2 bt141.1 bt141.2.1 t144 false a0_0 a0_1 a0_2 a0_3 a0_4 l0_5 a1_0 a1_1 a1_2 a1_3 a1_4) else (circuit_gate.j0 k a2 bt141.1 bt141.2.1 t144 (a1_4 != 0) a0_0 a0_1 a0_2 a0_3 a0_4 l0_5 a1_0 a1_1 a1_2 a1_3 a1_4)) else (circuit_gate.j0 k a2 bt141.1 bt141.2.1 t144 true a0_0 a0_1 a0_2 a0_3 a0_4 l0_5 a1_0 a1_1 a1_2 a1_3 a1_4))) else (if a1_3 = 0 then (if bt141.2.1 = true then (if bt141.2.2 = true then (circuit_gate.j0 k a2 bt141.1 bt141.2.1 t144 false a0_0 a0_1 a0_2 a0_3 a0_4 l0_5 a1_0 a1_1 a1_2 a1_3 a1_4) else (circuit_gate.j0 k a2 bt141.1 bt141.2.1 t144 (a1_4 != 0) a0_0 a0_1 a0_2 a0_3 a0_4 l0_5 a1_0 a1_1 a1_2 a1_3 a1_4)) else (if a1_1 = 0 then (if bt141.2.2 = true then (circuit_gate.j0 k a2 bt141.1 bt141.2.1 t144 false a0_0 a0_1 a0_2 a0_3 a0_4 l0_5 a1_0 a1_1 a1_2 a1_3 a1_4) else (circuit_gate.j0 k a2 bt141.1 bt141.2.1 t144 (a1_4 != 0) a0_0 a0_1 a0_2 a0_3 a0_4 l0_5 a1_0 a1_1 a1_2 a1_3 a1_4)) else (circuit_gate.j0 k a2 bt141.1 bt141.2.1 t144 true a0_0 a0_1 a0_2 a0_3 a0_4 l0_5 a1_0 a1_1 a1_2 a1_3 a1_4))) else (circuit_gate.j0 k a2 bt141.1 bt141.2.1 t144 true a0_0 a0_1 a0_2 a0_3 a0_4 l0_5 a1_0 a1_1 a1_2 a1_3 a1_4))))))) = some (r1, r2) := h
 clear h; replace H := Option.bind_eq_some_iff.mp H
 obtain ⟨⟨t141, t142, t143⟩, A40, H⟩ := H
 replace H : ((circuit_turned.f a1_0).bind fun t144 => (if a1_0 < 1 then (circuit_gate.j0 k a2 t141 t142 t144 true a0_0 a0_1 a0_2 a0_3 a0_4 l0_5 a1_0 a1_1 a1_2 a1_3 a1_4) else (if a1_0 > 8 then (circuit_gate.j0 k a2 t141 t142 t144 true a0_0 a0_1 a0_2 a0_3 a0_4 l0_5 a1_0 a1_1 a1_2 a1_3 a1_4) else (if t141 = true then (if t142 = true then (if t143 = true then (circuit_gate.j0 k a2 t141 t142 t144 false a0_0 a0_1 a0_2 a0_3 a0_4 l0_5 a1_0 a1_1 a1_2 a1_3 a1_4) else (circuit_gate.j0 k a2 t141 t142 t144 (a1_4 != 0) a0_0 a0_1 a0_2 a0_3 a0_4 l0_5 a1_0 a1_1 a1_2 a1_3 a1_4)) else (if a1_1 = 0 then (if t143 = true then (circuit_gate.j0 k a2 t141 t142 t144 false a0_0 a0_1 a0_2 a0_3 a0_4 l0_5 a1_0 a1_1 a1_2 a1_3 a1_4) else (circuit_gate.j0 k a2 t141 t142 t144 (a1_4 != 0) a0_0 a0_1 a0_2 a0_3 a0_4 l0_5 a1_0 a1_1 a1_2 a1_3 a1_4)) else (circuit_gate.j0 k a2 t141 t142 t144 true a0_0 a0_1 a0_2 a0_3 a0_4 l0_5 a1_0 a1_1 a1_2 a1_3 a1_4))) else (if a1_3 = 0 then (if t142 = true then (if t143 = true then (circuit_gate.j0 k a2 t141 t142 t144 false a0_0 a0_1 a0_2 a0_3 a0_4 l0_5 a1_0 a1_1 a1_2 a1_3 a1_4) else (circuit_gate.j0 k a2 t141 t142 t144 (a1_4 != 0) a0_0 a0_1 a0_2 a0_3 a0_4 l0_5 a1_0 a1_1 a1_2 a1_3 a1_4)) else (if a1_1 = 0 then (if t143 = true then (circuit_gate.j0 k a2 t141 t142 t144 false a0_0 a0_1 a0_2 a0_3 a0_4 l0_5 a1_0 a1_1 a1_2 a1_3 a1_4) else (circuit_gate.j0 k a2 t141 t142 t144 (a1_4 != 0) a0_0 a0_1 a0_2 a0_3 a0_4 l0_5 a1_0 a1_1 a1_2 a1_3 a1_4)) else (circuit_gate.j0 k a2 t141 t142 t144 true a0_0 a0_1 a0_2 a0_3 a0_4 l0_5 a1_0 a1_1 a1_2 a1_3 a1_4))) else (circuit_gate.j0 k a2 t141 t142 t144 true a0_0 a0_1 a0_2 a0_3 a0_4 l0_5 a1_0 a1_1 a1_2 a1_3 a1_4)))))) = some (r1, r2) := H
 have A4 := Aside0.mk A40; clear A40; replace H := Option.bind_eq_some_iff.mp H; obtain ⟨t144, A50, H⟩ := H
 replace H : (if a1_0 < 1 then (circuit_gate.j0 k a2 t141 t142 t144 true a0_0 a0_1 a0_2 a0_3 a0_4 l0_5 a1_0 a1_1 a1_2 a1_3 a1_4) else (if a1_0 > 8 then (circuit_gate.j0 k a2 t141 t142 t144 true a0_0 a0_1 a0_2 a0_3 a0_4 l0_5 a1_0 a1_1 a1_2 a1_3 a1_4) else (if t141 = true then (if t142 = true then (if t143 = true then (circuit_gate.j0 k a2 t141 t142 t144 false a0_0 a0_1 a0_2 a0_3 a0_4 l0_5 a1_0 a1_1 a1_2 a1_3 a1_4) else (circuit_gate.j0 k a2 t141 t142 t144 (a1_4 != 0) a0_0 a0_1 a0_2 a0_3 a0_4 l0_5 a1_0 a1_1 a1_2 a1_3 a1_4)) else (if a1_1 = 0 then (if t143 = true then (circuit_gate.j0 k a2 t141 t142 t144 false a0_0 a0_1 a0_2 a0_3 a0_4 l0_5 a1_0 a1_1 a1_2 a1_3 a1_4) else (circuit_gate.j0 k a2 t141 t142 t144 (a1_4 != 0) a0_0 a0_1 a0_2 a0_3 a0_4 l0_5 a1_0 a1_1 a1_2 a1_3 a1_4)) else (circuit_gate.j0 k a2 t141 t142 t144 true a0_0 a0_1 a0_2 a0_3 a0_4 l0_5 a1_0 a1_1 a1_2 a1_3 a1_4))) else (if a1_3 = 0 then (if t142 = true then (if t143 = true then (circuit_gate.j0 k a2 t141 t142 t144 false a0_0 a0_1 a0_2 a0_3 a0_4 l0_5 a1_0 a1_1 a1_2 a1_3 a1_4) else (circuit_gate.j0 k a2 t141 t142 t144 (a1_4 != 0) a0_0 a0_1 a0_2 a0_3 a0_4 l0_5 a1_0 a1_1 a1_2 a1_3 a1_4)) else (if a1_1 = 0 then (if t143 = true then (circuit_gate.j0 k a2 t141 t142 t144 false a0_0 a0_1 a0_2 a0_3 a0_4 l0_5 a1_0 a1_1 a1_2 a1_3 a1_4) else (circuit_gate.j0 k a2 t141 t142 t144 (a1_4 != 0) a0_0 a0_1 a0_2 a0_3 a0_4 l0_5 a1_0 a1_1 a1_2 a1_3 a1_4)) else (circuit_gate.j0 k a2 t141 t142 t144 true a0_0 a0_1 a0_2 a0_3 a0_4 l0_5 a1_0 a1_1 a1_2 a1_3 a1_4))) else (circuit_gate.j0 k a2 t141 t142 t144 true a0_0 a0_1 a0_2 a0_3 a0_4 l0_5 a1_0 a1_1 a1_2 a1_3 a1_4))))) = some (r1, r2) := H
 have A5 := Aside0.mk A50; clear A50; have HC6 := Aside0.mk H; clear H
 go_enter Try.func94, Try.ntmps94
 go_upto_block 0 with (first | ((with_reducible refine gate_dst (N := 3) rfl ?_); refine box_event ?hg (N := 3) ?hd (cs := #[.int .i64 a0_0, .int .i64 a0_1, .int .i64 a0_2, .int .i64 a0_3, .int .i64 a0_4, .slice A0_5 l0_5.length c0_5]) (t := 24) ?hr ?_; (case hd => rfl); (case hg => rfl); (case hr => first | (go_simp; done) | (go_simp; rfl)); intro gb139 hg w7 hbox hb; have n0_ := Aside0.mk (below_step (blA HB.out) hb); have n1_ := Aside0.mk (hbox); have n2_ := Aside0.mk ((by rw [hg]; exact (below_size (blA HB.out)) : w.heap.size ≤ gb139)); have n3_ := Aside0.mk ((by rw [hg]; exact (below_size (blA HB.out)) : w.heap.size ≤ gb139)); clear HB; have HB := n0_; have BK139 := n1_; have GW139 := n2_; have GE139 := n3_; clear n0_ n1_ n2_ n3_; clear hb hbox hg) | ((with_reducible refine gate_dst (N := 4) rfl ?_); refine box_event ?hg (N := 4) ?hd (cs := #[.int .i64 a1_0, .int .i64 a1_1, .int .i64 a1_2, .int .i64 a1_3, .int .i64 a1_4]) (t := 105) ?hr ?_; (case hd => rfl); (case hg => rfl); (case hr => first | (go_simp; done) | (go_simp; rfl)); intro gb140 hg w8 hbox hb; have n0_ := Aside0.mk (blk_below (bkA BK139.out) hb); have n1_ := Aside0.mk (below_step (blA HB.out) hb); have n2_ := Aside0.mk (hbox); have n3_ := Aside0.mk ((by rw [hg]; exact (below_size (blA HB.out)) : w.heap.size ≤ gb140)); have n4_ := Aside0.mk ((by rw [hg]; exact (below_size (blA HB.out)) : w.heap.size ≤ gb140)); have n5_ := Aside0.mk ((by rw [hg]; exact Nat.ne_of_lt (blk_lt (bkA BK139.out)) : gb139 ≠ gb140)); have n6_ := Aside0.mk ((by rw [hg]; exact Nat.ne_of_gt (blk_lt (bkA BK139.out)) : gb140 ≠ gb139)); clear BK139; clear HB; have BK139 := n0_; have HB := n1_; have BK140 := n2_; have GW140 := n3_; have GE140 := n4_; have NB139_140 := n5_; have NB140_139 := n6_; clear n0_ n1_ n2_ n3_ n4_ n5_ n6_; clear hb hbox hg; have hnb9 := NB140_139.out; have hnc9 := NB139_140.out; have hcz10 := fun i => blk_cell BK140.out i; have hfz10 := fun i => blk_frozen BK140.out i; ) | ((with_reducible refine gate_callee (f := 121) rfl ?_); refine goesL_ (some 15) rfl rfl Try.func121 (by kernel_rfl) rfl #[.int .i64 a1_0] rfl gsA ?_; (with_reducible refine (circuit_needs.calls k a1_0 t141 t142 t143 _ A4.out).mono ?_); rintro e w' ⟨rfl, ⟨nd, rfl⟩⟩; refine ⟨_, rfl, ?_⟩) | ((with_reducible refine gate_callee (f := 117) rfl ?_); refine goesL_ (some 21) rfl rfl Try.func117 (by kernel_rfl) rfl #[.int .i64 a1_0] rfl gsA ?_; (with_reducible refine (circuit_turned.calls a1_0 t144 _ A5.out).mono ?_); rintro e w' ⟨rfl, ⟨nd, rfl⟩⟩; refine ⟨_, rfl, ?_⟩))
 (try simp only [Act.put, List.setIfInBounds_toArray, List.set_cons_zero, List.set_cons_succ])
 go_cut [] (fun wc => ∃ (kq : Nat), Aside0 (circuit_gate.j3 kq a2 t142 a0_0 a0_1 a0_2 a0_3 a0_4 l0_5 a1_0 a1_1 a1_2 a1_3 a1_4 = some (r1, r2)) ∧ Aside0 (kq ≤ k) ∧ Aside0 (wc.heap[gb139]? = some (.cells #[.int .i64 a0_0, .int .i64 a0_1, .int .i64 a0_2, .int .i64 a0_3, .int .i64 a0_4, (.slice A0_5 l0_5.length c0_5)] 24 (0, 0))) ∧ Aside0 (wc.heap[gb140]? = some (.cells #[.int .i64 a1_0, .int .i64 a1_1, .int .i64 a1_2, .int .i64 a1_3, .int .i64 a1_4] 105 (0, 0))) ∧ Aside0 (Below w.heap.size w wc))
 case first =>
  have H := HC6.out; clear HC6; have HC11 := Aside0.mk H; clear H
  go_upto_region 3 with (fail)
  go_cut [22] (fun v22 wc => ∃ (kq : Nat) (x22_10 : Bool), v22 = .bool x22_10 ∧ Aside0 (circuit_gate.j0 kq a2 t141 t142 t144 x22_10 a0_0 a0_1 a0_2 a0_3 a0_4 l0_5 a1_0 a1_1 a1_2 a1_3 a1_4 = some (r1, r2)) ∧ Aside0 (kq ≤ k) ∧ Aside0 (wc.heap[gb139]? = some (.cells #[.int .i64 a0_0, .int .i64 a0_1, .int .i64 a0_2, .int .i64 a0_3, .int .i64 a0_4, (.slice A0_5 l0_5.length c0_5)] 24 (0, 0))) ∧ Aside0 (wc.heap[gb140]? = some (.cells #[.int .i64 a1_0, .int .i64 a1_1, .int .i64 a1_2, .int .i64 a1_3, .int .i64 a1_4] 105 (0, 0))) ∧ Aside0 (Below w.heap.size w wc))
  case first =>
   have H := HC11.out; clear HC11
   by_cases c12 : a1_0 < 1
   ·rw [if_pos c12] at H
    have c12b0 : decide (a1_0 < 1) = true := decide_eq_true c12; clear c12
    (first | rw [c12b0] | (simp only [i64_w, i32_w]; rw [c12b0]) | skip)
    have H' := Aside0.mk H; clear H; have hnb13 := NB140_139.out; have hnc13 := NB139_140.out
    have hcz14 := fun i => blk_cell BK140.out i
    have hfz14 := fun i => blk_frozen BK140.out i
    go_wp2
    go_meet
    case rel => exact ⟨_, (true), eqA, H', ⟨omA⟩, ⟨bkA BK139.out⟩, ⟨bkA BK140.out⟩, ⟨blA HB.out⟩⟩
   ·rw [if_neg c12] at H
    have c12b0 : decide (a1_0 < 1) = false := decide_eq_false c12; clear c12
    (first | rw [c12b0] | (simp only [i64_w, i32_w]; rw [c12b0]) | skip)
    by_cases c15 : a1_0 > 8
    ·rw [if_pos c15] at H
     have c15b0 : decide (8 < a1_0) = true := decide_eq_true c15; clear c15; have H' := Aside0.mk H; clear H; have hnb16 := NB140_139.out; have hnc16 := NB139_140.out
     have hcz17 := fun i => blk_cell BK140.out i
     have hfz17 := fun i => blk_frozen BK140.out i
     go_wp2
     go_meet
     case rel => exact ⟨_, (true), eqA, H', ⟨omA⟩, ⟨bkA BK139.out⟩, ⟨bkA BK140.out⟩, ⟨blA HB.out⟩⟩
    ·rw [if_neg c15] at H
     have c15b0 : decide (8 < a1_0) = false := decide_eq_false c15; clear c15
     by_cases c18 : t141 = true
     ·subst c18
      have H1 : (if t142 = true then (if t143 = true then (circuit_gate.j0 k a2 true t142 t144 false a0_0 a0_1 a0_2 a0_3 a0_4 l0_5 a1_0 a1_1 a1_2 a1_3 a1_4) else (circuit_gate.j0 k a2 true t142 t144 (a1_4 != 0) a0_0 a0_1 a0_2 a0_3 a0_4 l0_5 a1_0 a1_1 a1_2 a1_3 a1_4)) else (if a1_1 = 0 then (if t143 = true then (circuit_gate.j0 k a2 true t142 t144 false a0_0 a0_1 a0_2 a0_3 a0_4 l0_5 a1_0 a1_1 a1_2 a1_3 a1_4) else (circuit_gate.j0 k a2 true t142 t144 (a1_4 != 0) a0_0 a0_1 a0_2 a0_3 a0_4 l0_5 a1_0 a1_1 a1_2 a1_3 a1_4)) else (circuit_gate.j0 k a2 true t142 t144 true a0_0 a0_1 a0_2 a0_3 a0_4 l0_5 a1_0 a1_1 a1_2 a1_3 a1_4))) = some (r1, r2) := by rw [if_pos rfl] at H; exact H
      clear H; have H := H1; clear H1
      by_cases c19 : t142 = true
      ·subst c19
       have H1 : (if t143 = true then (circuit_gate.j0 k a2 true true t144 false a0_0 a0_1 a0_2 a0_3 a0_4 l0_5 a1_0 a1_1 a1_2 a1_3 a1_4) else (circuit_gate.j0 k a2 true true t144 (a1_4 != 0) a0_0 a0_1 a0_2 a0_3 a0_4 l0_5 a1_0 a1_1 a1_2 a1_3 a1_4)) = some (r1, r2) := by rw [if_pos rfl] at H; exact H
       clear H; have H := H1; clear H1
       by_cases c20 : t143 = true
       ·subst c20
        have H1 : (circuit_gate.j0 k a2 true true t144 false a0_0 a0_1 a0_2 a0_3 a0_4 l0_5 a1_0 a1_1 a1_2 a1_3 a1_4) = some (r1, r2) := by rw [if_pos rfl] at H; exact H
        clear H; have H := H1; clear H1; have H' := Aside0.mk H; clear H; have hnb21 := NB140_139.out; have hnc21 := NB139_140.out
        have hcz22 := fun i => blk_cell BK140.out i
        have hfz22 := fun i => blk_frozen BK140.out i
        go_wp2
        go_meet
        case rel => exact ⟨_, (false), eqA, H', ⟨omA⟩, ⟨bkA BK139.out⟩, ⟨bkA BK140.out⟩, ⟨blA HB.out⟩⟩
       ·replace c20 := Bool.eq_false_iff.mpr c20; subst c20
        have H1 : (circuit_gate.j0 k a2 true true t144 (a1_4 != 0) a0_0 a0_1 a0_2 a0_3 a0_4 l0_5 a1_0 a1_1 a1_2 a1_3 a1_4) = some (r1, r2) := by rw [if_neg (show ¬ (false = true) by decide)] at H; exact H
        clear H; have H := H1; clear H1; have H' := Aside0.mk H; clear H; have hnb23 := NB140_139.out; have hnc23 := NB139_140.out
        have hcz24 := fun i => blk_cell BK140.out i
        have hfz24 := fun i => blk_frozen BK140.out i
        go_wp2
        go_meet
        case rel => exact ⟨_, ((a1_4 != 0)), eqA, H', ⟨omA⟩, ⟨bkA BK139.out⟩, ⟨bkA BK140.out⟩, ⟨blA HB.out⟩⟩
      ·replace c19 := Bool.eq_false_iff.mpr c19; subst c19
       have H1 : (if a1_1 = 0 then (if t143 = true then (circuit_gate.j0 k a2 true false t144 false a0_0 a0_1 a0_2 a0_3 a0_4 l0_5 a1_0 a1_1 a1_2 a1_3 a1_4) else (circuit_gate.j0 k a2 true false t144 (a1_4 != 0) a0_0 a0_1 a0_2 a0_3 a0_4 l0_5 a1_0 a1_1 a1_2 a1_3 a1_4)) else (circuit_gate.j0 k a2 true false t144 true a0_0 a0_1 a0_2 a0_3 a0_4 l0_5 a1_0 a1_1 a1_2 a1_3 a1_4)) = some (r1, r2) := by rw [if_neg (show ¬ (false = true) by decide)] at H; exact H
       clear H; have H := H1; clear H1
       by_cases c25 : a1_1 = 0
       ·rw [if_pos c25] at H
        have c25b0 : (a1_1 == 0) = true := beq_iff_eq.mpr c25; have c25b1 : (a1_1 != 0) = false := bne_eq_false_iff_eq.mpr c25; clear c25
        by_cases c26 : t143 = true
        ·subst c26
         have H1 : (circuit_gate.j0 k a2 true false t144 false a0_0 a0_1 a0_2 a0_3 a0_4 l0_5 a1_0 a1_1 a1_2 a1_3 a1_4) = some (r1, r2) := by rw [if_pos rfl] at H; exact H
         clear H; have H := H1; clear H1; have H' := Aside0.mk H; clear H; have hnb27 := NB140_139.out; have hnc27 := NB139_140.out
         have hcz28 := fun i => blk_cell BK140.out i
         have hfz28 := fun i => blk_frozen BK140.out i
         go_wp2
         go_meet
         case rel => exact ⟨_, (false), eqA, H', ⟨omA⟩, ⟨bkA BK139.out⟩, ⟨bkA BK140.out⟩, ⟨blA HB.out⟩⟩
        ·replace c26 := Bool.eq_false_iff.mpr c26; subst c26
         have H1 : (circuit_gate.j0 k a2 true false t144 (a1_4 != 0) a0_0 a0_1 a0_2 a0_3 a0_4 l0_5 a1_0 a1_1 a1_2 a1_3 a1_4) = some (r1, r2) := by rw [if_neg (show ¬ (false = true) by decide)] at H; exact H
         clear H; have H := H1; clear H1; have H' := Aside0.mk H; clear H; have hnb29 := NB140_139.out; have hnc29 := NB139_140.out
         have hcz30 := fun i => blk_cell BK140.out i
         have hfz30 := fun i => blk_frozen BK140.out i
         go_wp2
         go_meet
         case rel => exact ⟨_, ((a1_4 != 0)), eqA, H', ⟨omA⟩, ⟨bkA BK139.out⟩, ⟨bkA BK140.out⟩, ⟨blA HB.out⟩⟩
       ·rw [if_neg c25] at H
        have c25b0 : (a1_1 == 0) = false := beq_eq_false_iff_ne.mpr c25; have c25b1 : (a1_1 != 0) = true := bne_iff_ne.mpr c25; have H' := Aside0.mk H; clear H; have hnb31 := NB140_139.out; have hnc31 := NB139_140.out
        have hcz32 := fun i => blk_cell BK140.out i
        have hfz32 := fun i => blk_frozen BK140.out i
        go_wp2
        go_meet
        case rel => exact ⟨_, (true), eqA, H', ⟨omA⟩, ⟨bkA BK139.out⟩, ⟨bkA BK140.out⟩, ⟨blA HB.out⟩⟩
     ·replace c18 := Bool.eq_false_iff.mpr c18; subst c18
      have H1 : (if a1_3 = 0 then (if t142 = true then (if t143 = true then (circuit_gate.j0 k a2 false t142 t144 false a0_0 a0_1 a0_2 a0_3 a0_4 l0_5 a1_0 a1_1 a1_2 a1_3 a1_4) else (circuit_gate.j0 k a2 false t142 t144 (a1_4 != 0) a0_0 a0_1 a0_2 a0_3 a0_4 l0_5 a1_0 a1_1 a1_2 a1_3 a1_4)) else (if a1_1 = 0 then (if t143 = true then (circuit_gate.j0 k a2 false t142 t144 false a0_0 a0_1 a0_2 a0_3 a0_4 l0_5 a1_0 a1_1 a1_2 a1_3 a1_4) else (circuit_gate.j0 k a2 false t142 t144 (a1_4 != 0) a0_0 a0_1 a0_2 a0_3 a0_4 l0_5 a1_0 a1_1 a1_2 a1_3 a1_4)) else (circuit_gate.j0 k a2 false t142 t144 true a0_0 a0_1 a0_2 a0_3 a0_4 l0_5 a1_0 a1_1 a1_2 a1_3 a1_4))) else (circuit_gate.j0 k a2 false t142 t144 true a0_0 a0_1 a0_2 a0_3 a0_4 l0_5 a1_0 a1_1 a1_2 a1_3 a1_4)) = some (r1, r2) := by rw [if_neg (show ¬ (false = true) by decide)] at H; exact H
      clear H; have H := H1; clear H1
      by_cases c33 : a1_3 = 0
      ·rw [if_pos c33] at H
       have c33b0 : (a1_3 == 0) = true := beq_iff_eq.mpr c33; have c33b1 : (a1_3 != 0) = false := bne_eq_false_iff_eq.mpr c33; clear c33
       by_cases c34 : t142 = true
       ·subst c34
        have H1 : (if t143 = true then (circuit_gate.j0 k a2 false true t144 false a0_0 a0_1 a0_2 a0_3 a0_4 l0_5 a1_0 a1_1 a1_2 a1_3 a1_4) else (circuit_gate.j0 k a2 false true t144 (a1_4 != 0) a0_0 a0_1 a0_2 a0_3 a0_4 l0_5 a1_0 a1_1 a1_2 a1_3 a1_4)) = some (r1, r2) := by rw [if_pos rfl] at H; exact H
        clear H; have H := H1; clear H1
        by_cases c35 : t143 = true
        ·subst c35
         have H1 : (circuit_gate.j0 k a2 false true t144 false a0_0 a0_1 a0_2 a0_3 a0_4 l0_5 a1_0 a1_1 a1_2 a1_3 a1_4) = some (r1, r2) := by rw [if_pos rfl] at H; exact H
         clear H; have H := H1; clear H1; have H' := Aside0.mk H; clear H; have hnb36 := NB140_139.out; have hnc36 := NB139_140.out
         have hcz37 := fun i => blk_cell BK140.out i
         have hfz37 := fun i => blk_frozen BK140.out i
         go_wp2
         go_meet
         case rel => exact ⟨_, (false), eqA, H', ⟨omA⟩, ⟨bkA BK139.out⟩, ⟨bkA BK140.out⟩, ⟨blA HB.out⟩⟩
        ·replace c35 := Bool.eq_false_iff.mpr c35; subst c35
         have H1 : (circuit_gate.j0 k a2 false true t144 (a1_4 != 0) a0_0 a0_1 a0_2 a0_3 a0_4 l0_5 a1_0 a1_1 a1_2 a1_3 a1_4) = some (r1, r2) := by rw [if_neg (show ¬ (false = true) by decide)] at H; exact H
         clear H; have H := H1; clear H1; have H' := Aside0.mk H; clear H; have hnb38 := NB140_139.out; have hnc38 := NB139_140.out
         have hcz39 := fun i => blk_cell BK140.out i
         have hfz39 := fun i => blk_frozen BK140.out i
         go_wp2
         go_meet
         case rel => exact ⟨_, ((a1_4 != 0)), eqA, H', ⟨omA⟩, ⟨bkA BK139.out⟩, ⟨bkA BK140.out⟩, ⟨blA HB.out⟩⟩
       ·replace c34 := Bool.eq_false_iff.mpr c34; subst c34
        have H1 : (if a1_1 = 0 then (if t143 = true then (circuit_gate.j0 k a2 false false t144 false a0_0 a0_1 a0_2 a0_3 a0_4 l0_5 a1_0 a1_1 a1_2 a1_3 a1_4) else (circuit_gate.j0 k a2 false false t144 (a1_4 != 0) a0_0 a0_1 a0_2 a0_3 a0_4 l0_5 a1_0 a1_1 a1_2 a1_3 a1_4)) else (circuit_gate.j0 k a2 false false t144 true a0_0 a0_1 a0_2 a0_3 a0_4 l0_5 a1_0 a1_1 a1_2 a1_3 a1_4)) = some (r1, r2) := by rw [if_neg (show ¬ (false = true) by decide)] at H; exact H
        clear H; have H := H1; clear H1
        by_cases c40 : a1_1 = 0
        ·rw [if_pos c40] at H
         have c40b0 : (a1_1 == 0) = true := beq_iff_eq.mpr c40; have c40b1 : (a1_1 != 0) = false := bne_eq_false_iff_eq.mpr c40; clear c40
         by_cases c41 : t143 = true
         ·subst c41
          have H1 : (circuit_gate.j0 k a2 false false t144 false a0_0 a0_1 a0_2 a0_3 a0_4 l0_5 a1_0 a1_1 a1_2 a1_3 a1_4) = some (r1, r2) := by rw [if_pos rfl] at H; exact H
          clear H; have H := H1; clear H1; have H' := Aside0.mk H; clear H; have hnb42 := NB140_139.out; have hnc42 := NB139_140.out
          have hcz43 := fun i => blk_cell BK140.out i
          have hfz43 := fun i => blk_frozen BK140.out i
          go_wp2
          go_meet
          case rel => exact ⟨_, (false), eqA, H', ⟨omA⟩, ⟨bkA BK139.out⟩, ⟨bkA BK140.out⟩, ⟨blA HB.out⟩⟩
         ·replace c41 := Bool.eq_false_iff.mpr c41; subst c41
          have H1 : (circuit_gate.j0 k a2 false false t144 (a1_4 != 0) a0_0 a0_1 a0_2 a0_3 a0_4 l0_5 a1_0 a1_1 a1_2 a1_3 a1_4) = some (r1, r2) := by rw [if_neg (show ¬ (false = true) by decide)] at H; exact H
          clear H; have H := H1; clear H1; have H' := Aside0.mk H; clear H; have hnb44 := NB140_139.out; have hnc44 := NB139_140.out
          have hcz45 := fun i => blk_cell BK140.out i
          have hfz45 := fun i => blk_frozen BK140.out i
          go_wp2
          go_meet
          case rel => exact ⟨_, ((a1_4 != 0)), eqA, H', ⟨omA⟩, ⟨bkA BK139.out⟩, ⟨bkA BK140.out⟩, ⟨blA HB.out⟩⟩
        ·rw [if_neg c40] at H
         have c40b0 : (a1_1 == 0) = false := beq_eq_false_iff_ne.mpr c40; have c40b1 : (a1_1 != 0) = true := bne_iff_ne.mpr c40; have H' := Aside0.mk H; clear H; have hnb46 := NB140_139.out; have hnc46 := NB139_140.out
         have hcz47 := fun i => blk_cell BK140.out i
         have hfz47 := fun i => blk_frozen BK140.out i
         go_wp2
         go_meet
         case rel => exact ⟨_, (true), eqA, H', ⟨omA⟩, ⟨bkA BK139.out⟩, ⟨bkA BK140.out⟩, ⟨blA HB.out⟩⟩
      ·rw [if_neg c33] at H
       have c33b0 : (a1_3 == 0) = false := beq_eq_false_iff_ne.mpr c33; have c33b1 : (a1_3 != 0) = true := bne_iff_ne.mpr c33; have H' := Aside0.mk H; clear H; have hnb48 := NB140_139.out; have hnc48 := NB139_140.out
       have hcz49 := fun i => blk_cell BK140.out i
       have hfz49 := fun i => blk_frozen BK140.out i
       go_wp2
       go_meet
       case rel => exact ⟨_, (true), eqA, H', ⟨omA⟩, ⟨bkA BK139.out⟩, ⟨bkA BK140.out⟩, ⟨blA HB.out⟩⟩
  case rest =>
   clear HC11; (try clear c1); (try clear c2); (try clear p2); (try clear c3); (try clear c4); (try clear c9); (try clear c11); (try clear c12); (try clear c12b0); (try clear c13); (try clear c15); (try clear c15b0); (try clear c16); (try clear c18); (try clear c19); (try clear c20); (try clear c21); (try clear c23); (try clear c25); (try clear c25b0); (try clear c25b1); (try clear c26); (try clear c27); (try clear c29); (try clear c31); (try clear c33); (try clear c33b0); (try clear c33b1); (try clear c34); (try clear c35); (try clear c36); (try clear c38); (try clear c40); (try clear c40b0); (try clear c40b1); (try clear c41); (try clear c42); (try clear c44); (try clear c46); (try clear c48); (try clear hcz10); (try clear hcz14); (try clear hcz17); (try clear hcz22); (try clear hcz24); (try clear hcz28); (try clear hcz30); (try clear hcz32); (try clear hcz37); (try clear hcz39); (try clear hcz43); (try clear hcz45); (try clear hcz47); (try clear hcz49); (try clear hfz10); (try clear hfz14); (try clear hfz17); (try clear hfz22); (try clear hfz24); (try clear hfz28); (try clear hfz30); (try clear hfz32); (try clear hfz37); (try clear hfz39); (try clear hfz43); (try clear hfz45); (try clear hfz47); (try clear hfz49); obtain ⟨kq, x22_10, rfl, HA, HJ10, BK139, BK140, HB⟩ := hcut
   cases kq with
   | zero => exact absurd HA.out (by simp [circuit_gate.j0])
   | succ kj10 =>
    have H := HA.out; clear HA
    simp only [circuit_gate.j0] at H
    by_cases c50 : x22_10 = true
    ·subst c50
     have H1 : (some (0, 3)) = some (r1, r2) := by rw [if_pos rfl] at H; exact H
     clear H; have H := H1; clear H1
     simp only [Option.some.injEq, Prod.mk.injEq] at H
     obtain ⟨rfl, rfl⟩ := H
     go_wp2
     go_ret2
     exact ⟨by first | rfl | (simp [errW_none, errW_some] <;> rfl) | (simp [*, errW_none, errW_some] <;> rfl), blA HB.out⟩
    ·replace c50 := Bool.eq_false_iff.mpr c50; subst c50
     have H1 : (if a1_2 < 0 then (circuit_gate.j1 kj10 a2 t142 t144 true a0_0 a0_1 a0_2 a0_3 a0_4 l0_5 a1_0 a1_1 a1_2 a1_3 a1_4) else (if a1_2 ≥ a2 then (circuit_gate.j1 kj10 a2 t142 t144 true a0_0 a0_1 a0_2 a0_3 a0_4 l0_5 a1_0 a1_1 a1_2 a1_3 a1_4) else (if a1_3 < 0 then (circuit_gate.j1 kj10 a2 t142 t144 true a0_0 a0_1 a0_2 a0_3 a0_4 l0_5 a1_0 a1_1 a1_2 a1_3 a1_4) else (if t141 = true then (circuit_gate.j1 kj10 a2 t142 t144 (decide (a1_3 ≥ a2)) a0_0 a0_1 a0_2 a0_3 a0_4 l0_5 a1_0 a1_1 a1_2 a1_3 a1_4) else (circuit_gate.j1 kj10 a2 t142 t144 false a0_0 a0_1 a0_2 a0_3 a0_4 l0_5 a1_0 a1_1 a1_2 a1_3 a1_4))))) = some (r1, r2) := by rw [if_neg (show ¬ (false = true) by decide)] at H; exact H
     clear H; have H := H1; clear H1; have HC51 := Aside0.mk H; clear H
     go_upto_region 5 with (fail)
     go_cut [58] (fun v58 wc => ∃ (kq : Nat) (x58_50 : Bool), v58 = .bool x58_50 ∧ Aside0 (circuit_gate.j1 kq a2 t142 t144 x58_50 a0_0 a0_1 a0_2 a0_3 a0_4 l0_5 a1_0 a1_1 a1_2 a1_3 a1_4 = some (r1, r2)) ∧ Aside0 (kq ≤ kj10) ∧ Aside0 (wc.heap[gb139]? = some (.cells #[.int .i64 a0_0, .int .i64 a0_1, .int .i64 a0_2, .int .i64 a0_3, .int .i64 a0_4, (.slice A0_5 l0_5.length c0_5)] 24 (0, 0))) ∧ Aside0 (wc.heap[gb140]? = some (.cells #[.int .i64 a1_0, .int .i64 a1_1, .int .i64 a1_2, .int .i64 a1_3, .int .i64 a1_4] 105 (0, 0))) ∧ Aside0 (Below w.heap.size w wc))
     case first =>
      have H := HC51.out; clear HC51
      by_cases c52 : a1_2 < 0
      ·rw [if_pos c52] at H
       have c52b0 : decide (a1_2 < 0) = true := decide_eq_true c52; clear c52
       (first | rw [c52b0] | (simp only [i64_w, i32_w]; rw [c52b0]) | skip)
       have H' := Aside0.mk H; clear H; have hnb53 := NB140_139.out; have hnc53 := NB139_140.out
       have hcz54 := fun i => blk_cell BK140.out i
       have hfz54 := fun i => blk_frozen BK140.out i
       go_wp2
       go_meet
       case rel => exact ⟨_, (true), eqA, H', ⟨by have := HJ10.out; first | omega | exact Nat.le_refl _⟩, ⟨bkA BK139.out⟩, ⟨bkA BK140.out⟩, ⟨blA HB.out⟩⟩
      ·rw [if_neg c52] at H
       have c52b0 : decide (a1_2 < 0) = false := decide_eq_false c52; clear c52
       (first | rw [c52b0] | (simp only [i64_w, i32_w]; rw [c52b0]) | skip)
       by_cases c55 : a1_2 ≥ a2
       ·rw [if_pos c55] at H
        have c55b0 : decide (a2 ≤ a1_2) = true := decide_eq_true c55; clear c55; have H' := Aside0.mk H; clear H; have hnb56 := NB140_139.out; have hnc56 := NB139_140.out
        have hcz57 := fun i => blk_cell BK140.out i
        have hfz57 := fun i => blk_frozen BK140.out i
        go_wp2
        go_meet
        case rel => exact ⟨_, (true), eqA, H', ⟨by have := HJ10.out; first | omega | exact Nat.le_refl _⟩, ⟨bkA BK139.out⟩, ⟨bkA BK140.out⟩, ⟨blA HB.out⟩⟩
       ·rw [if_neg c55] at H
        have c55b0 : decide (a2 ≤ a1_2) = false := decide_eq_false c55; clear c55
        by_cases c58 : a1_3 < 0
        ·rw [if_pos c58] at H
         have c58b0 : decide (a1_3 < 0) = true := decide_eq_true c58; clear c58; have H' := Aside0.mk H; clear H; have hnb59 := NB140_139.out; have hnc59 := NB139_140.out
         have hcz60 := fun i => blk_cell BK140.out i
         have hfz60 := fun i => blk_frozen BK140.out i
         go_wp2
         go_meet
         case rel => exact ⟨_, (true), eqA, H', ⟨by have := HJ10.out; first | omega | exact Nat.le_refl _⟩, ⟨bkA BK139.out⟩, ⟨bkA BK140.out⟩, ⟨blA HB.out⟩⟩
        ·rw [if_neg c58] at H
         have c58b0 : decide (a1_3 < 0) = false := decide_eq_false c58; clear c58
         by_cases c61 : t141 = true
         ·subst c61
          have H1 : (circuit_gate.j1 kj10 a2 t142 t144 (decide (a1_3 ≥ a2)) a0_0 a0_1 a0_2 a0_3 a0_4 l0_5 a1_0 a1_1 a1_2 a1_3 a1_4) = some (r1, r2) := by rw [if_pos rfl] at H; exact H
          clear H; have H := H1; clear H1; have H' := Aside0.mk H; clear H; have hnb62 := NB140_139.out; have hnc62 := NB139_140.out
          have hcz63 := fun i => blk_cell BK140.out i
          have hfz63 := fun i => blk_frozen BK140.out i
          go_wp2
          go_meet
          case rel => exact ⟨_, (decide (a1_3 ≥ a2)), eqA, H', ⟨by have := HJ10.out; first | omega | exact Nat.le_refl _⟩, ⟨bkA BK139.out⟩, ⟨bkA BK140.out⟩, ⟨blA HB.out⟩⟩
         ·replace c61 := Bool.eq_false_iff.mpr c61; subst c61
          have H1 : (circuit_gate.j1 kj10 a2 t142 t144 false a0_0 a0_1 a0_2 a0_3 a0_4 l0_5 a1_0 a1_1 a1_2 a1_3 a1_4) = some (r1, r2) := by rw [if_neg (show ¬ (false = true) by decide)] at H; exact H
          clear H; have H := H1; clear H1; have H' := Aside0.mk H; clear H; have hnb64 := NB140_139.out; have hnc64 := NB139_140.out
          have hcz65 := fun i => blk_cell BK140.out i
          have hfz65 := fun i => blk_frozen BK140.out i
          go_wp2
          go_meet
          case rel => exact ⟨_, (false), eqA, H', ⟨by have := HJ10.out; first | omega | exact Nat.le_refl _⟩, ⟨bkA BK139.out⟩, ⟨bkA BK140.out⟩, ⟨blA HB.out⟩⟩
     case rest =>
      clear HC51; (try clear c1); (try clear c2); (try clear p2); (try clear c3); (try clear c4); (try clear c5); (try clear c6); (try clear c9); (try clear c11); (try clear c12); (try clear c12b0); (try clear c13); (try clear c15); (try clear c15b0); (try clear c16); (try clear c18); (try clear c19); (try clear c20); (try clear c21); (try clear c23); (try clear c25); (try clear c25b0); (try clear c25b1); (try clear c26); (try clear c27); (try clear c29); (try clear c31); (try clear c33); (try clear c33b0); (try clear c33b1); (try clear c34); (try clear c35); (try clear c36); (try clear c38); (try clear c40); (try clear c40b0); (try clear c40b1); (try clear c41); (try clear c42); (try clear c44); (try clear c46); (try clear c48); (try clear c50); (try clear c52); (try clear c52b0); (try clear c53); (try clear c55); (try clear c55b0); (try clear c56); (try clear c58); (try clear c58b0); (try clear c59); (try clear c61); (try clear c62); (try clear c64); (try clear hcz10); (try clear hcz14); (try clear hcz17); (try clear hcz22); (try clear hcz24); (try clear hcz28); (try clear hcz30); (try clear hcz32); (try clear hcz37); (try clear hcz39); (try clear hcz43); (try clear hcz45); (try clear hcz47); (try clear hcz49); (try clear hcz54); (try clear hcz57); (try clear hcz60); (try clear hcz63); (try clear hcz65); (try clear hfz10); (try clear hfz14); (try clear hfz17); (try clear hfz22); (try clear hfz24); (try clear hfz28); (try clear hfz30); (try clear hfz32); (try clear hfz37); (try clear hfz39); (try clear hfz43); (try clear hfz45); (try clear hfz47); (try clear hfz49); (try clear hfz54); (try clear hfz57); (try clear hfz60); (try clear hfz63); (try clear hfz65); (try clear p2); obtain ⟨kq, x58_50, rfl, HA, HJ50, BK139, BK140, HB⟩ := hcut
      cases kq with
      | zero => exact absurd HA.out (by simp [circuit_gate.j1])
      | succ kj50 =>
       have H := HA.out; clear HA
       simp only [circuit_gate.j1] at H
       by_cases c66 : x58_50 = true
       ·subst c66
        have H1 : (some (0, 4)) = some (r1, r2) := by rw [if_pos rfl] at H; exact H
        clear H; have H := H1; clear H1
        simp only [Option.some.injEq, Prod.mk.injEq] at H
        obtain ⟨rfl, rfl⟩ := H
        go_wp2
        go_ret2
        exact ⟨by first | rfl | (simp [errW_none, errW_some] <;> rfl) | (simp [*, errW_none, errW_some] <;> rfl), blA HB.out⟩
       ·replace c66 := Bool.eq_false_iff.mpr c66; subst c66
        have H1 : (if t144 = 0 then (circuit_gate.j2 kj50 a2 t142 false a0_0 a0_1 a0_2 a0_3 a0_4 l0_5 a1_0 a1_1 a1_2 a1_3 a1_4) else ((turn_Fits.f t144 a0_0 a1_4).bind fun t145 => (circuit_gate.j2 kj50 a2 t142 (!t145) a0_0 a0_1 a0_2 a0_3 a0_4 l0_5 a1_0 a1_1 a1_2 a1_3 a1_4))) = some (r1, r2) := by rw [if_neg (show ¬ (false = true) by decide)] at H; exact H
        clear H; have H := H1; clear H1; have HC67 := Aside0.mk H; clear H
        go_upto_region 7 with (fail)
        go_cut [82] (fun v82 wc => ∃ (kq : Nat) (x82_66 : Bool), v82 = .bool x82_66 ∧ Aside0 (circuit_gate.j2 kq a2 t142 x82_66 a0_0 a0_1 a0_2 a0_3 a0_4 l0_5 a1_0 a1_1 a1_2 a1_3 a1_4 = some (r1, r2)) ∧ Aside0 (kq ≤ kj50) ∧ Aside0 (wc.heap[gb139]? = some (.cells #[.int .i64 a0_0, .int .i64 a0_1, .int .i64 a0_2, .int .i64 a0_3, .int .i64 a0_4, (.slice A0_5 l0_5.length c0_5)] 24 (0, 0))) ∧ Aside0 (wc.heap[gb140]? = some (.cells #[.int .i64 a1_0, .int .i64 a1_1, .int .i64 a1_2, .int .i64 a1_3, .int .i64 a1_4] 105 (0, 0))) ∧ Aside0 (Below w.heap.size w wc))
        case first =>
         have H := HC67.out; clear HC67
         by_cases c68 : t144 = 0
         ·rw [if_pos c68] at H
          have c68b0 : (t144 == 0) = true := beq_iff_eq.mpr c68; have c68b1 : (t144 != 0) = false := bne_eq_false_iff_eq.mpr c68; clear c68
          (first | rw [c68b0] | (simp only [i64_w, i32_w]; rw [c68b0]) | skip)
          have H' := Aside0.mk H; clear H
          go_wp2
          go_meet
          case rel => exact ⟨_, (false), eqA, H', ⟨by have := HJ10.out; have := HJ50.out; first | omega | exact Nat.le_refl _⟩, ⟨bkA BK139.out⟩, ⟨bkA BK140.out⟩, ⟨blA HB.out⟩⟩
         ·rw [if_neg c68] at H
          have c68b0 : (t144 == 0) = false := beq_eq_false_iff_ne.mpr c68; have c68b1 : (t144 != 0) = true := bne_iff_ne.mpr c68
          (first | rw [c68b0] | (simp only [i64_w, i32_w]; rw [c68b0]) | skip)
          replace H := Option.bind_eq_some_iff.mp H; obtain ⟨t145, A690, H⟩ := H; replace H : (circuit_gate.j2 kj50 a2 t142 (!t145) a0_0 a0_1 a0_2 a0_3 a0_4 l0_5 a1_0 a1_1 a1_2 a1_3 a1_4) = some (r1, r2) := H; have A69 := Aside0.mk A690; clear A690; have H' := Aside0.mk H; clear H; have hnb70 := NB139_140.out; have hnc70 := NB140_139.out
          have hcz71 := fun i => blk_cell BK139.out i
          have hfz71 := fun i => blk_frozen BK139.out i
          have hcz72 := fun i => blk_cell BK140.out i
          have hfz72 := fun i => blk_frozen BK140.out i
          go_wp2_with (first | (go_at_call 75; (with_reducible refine (turn_Fits.calls t144 a0_0 a1_4 t145 _ A69.out).mono ?_); rintro e w' ⟨rfl, ⟨nd, rfl⟩⟩))
          go_meet
          case rel => exact ⟨_, (!t145), eqA, H', ⟨by have := HJ10.out; have := HJ50.out; first | omega | exact Nat.le_refl _⟩, ⟨bkA BK139.out⟩, ⟨bkA BK140.out⟩, ⟨blA HB.out⟩⟩
        case rest =>
         clear HC67; (try clear c1); (try clear c2); (try clear p2); (try clear c3); (try clear c4); (try clear c5); (try clear c6); (try clear c7); (try clear c9); (try clear c11); (try clear c12); (try clear c12b0); (try clear c13); (try clear c15); (try clear c15b0); (try clear c16); (try clear c18); (try clear c19); (try clear c20); (try clear c21); (try clear c23); (try clear c25); (try clear c25b0); (try clear c25b1); (try clear c26); (try clear c27); (try clear c29); (try clear c31); (try clear c33); (try clear c33b0); (try clear c33b1); (try clear c34); (try clear c35); (try clear c36); (try clear c38); (try clear c40); (try clear c40b0); (try clear c40b1); (try clear c41); (try clear c42); (try clear c44); (try clear c46); (try clear c48); (try clear c50); (try clear c52); (try clear c52b0); (try clear c53); (try clear c55); (try clear c55b0); (try clear c56); (try clear c58); (try clear c58b0); (try clear c59); (try clear c61); (try clear c62); (try clear c64); (try clear c66); (try clear c68); (try clear c68b0); (try clear c68b1); (try clear c70); (try clear hcz10); (try clear hcz14); (try clear hcz17); (try clear hcz22); (try clear hcz24); (try clear hcz28); (try clear hcz30); (try clear hcz32); (try clear hcz37); (try clear hcz39); (try clear hcz43); (try clear hcz45); (try clear hcz47); (try clear hcz49); (try clear hcz54); (try clear hcz57); (try clear hcz60); (try clear hcz63); (try clear hcz65); (try clear hcz71); (try clear hcz72); (try clear hfz10); (try clear hfz14); (try clear hfz17); (try clear hfz22); (try clear hfz24); (try clear hfz28); (try clear hfz30); (try clear hfz32); (try clear hfz37); (try clear hfz39); (try clear hfz43); (try clear hfz45); (try clear hfz47); (try clear hfz49); (try clear hfz54); (try clear hfz57); (try clear hfz60); (try clear hfz63); (try clear hfz65); (try clear hfz71); (try clear hfz72); (try clear p2); obtain ⟨kq, x82_66, rfl, HA, HJ66, BK139, BK140, HB⟩ := hcut
         cases kq with
         | zero => exact absurd HA.out (by simp [circuit_gate.j2])
         | succ kj66 =>
          have H := HA.out; clear HA
          simp only [circuit_gate.j2] at H
          by_cases c73 : x82_66 = true
          ·subst c73
           have H1 : (some (0, 1)) = some (r1, r2) := by rw [if_pos rfl] at H; exact H
           clear H; have H := H1; clear H1
           simp only [Option.some.injEq, Prod.mk.injEq] at H
           obtain ⟨rfl, rfl⟩ := H
           go_wp2
           go_ret2
           exact ⟨by first | rfl | (simp [errW_none, errW_some] <;> rfl) | (simp [*, errW_none, errW_some] <;> rfl), blA HB.out⟩
          ·replace c73 := Bool.eq_false_iff.mpr c73; subst c73
           have H1 : (if t142 = true then (if a1_1 = a2 then (if a1_0 = 7 then (if a1_4 = (wrap64 (a2 + 1)) then (circuit_gate.j3 kj66 a2 t142 a0_0 a0_1 a0_2 a0_3 a0_4 l0_5 a1_0 a1_1 a1_2 a1_3 a1_4) else (some (0, 3))) else (circuit_gate.j3 kj66 a2 t142 a0_0 a0_1 a0_2 a0_3 a0_4 l0_5 a1_0 a1_1 a1_2 a1_3 a1_4)) else (some (0, 3))) else (if a1_0 = 7 then (if a1_4 = (wrap64 (a2 + 1)) then (circuit_gate.j3 kj66 a2 t142 a0_0 a0_1 a0_2 a0_3 a0_4 l0_5 a1_0 a1_1 a1_2 a1_3 a1_4) else (some (0, 3))) else (circuit_gate.j3 kj66 a2 t142 a0_0 a0_1 a0_2 a0_3 a0_4 l0_5 a1_0 a1_1 a1_2 a1_3 a1_4))) = some (r1, r2) := by rw [if_neg (show ¬ (false = true) by decide)] at H; exact H
           clear H; have H := H1; clear H1
           by_cases c74 : t142 = true
           ·subst c74
            have H1 : (if a1_1 = a2 then (if a1_0 = 7 then (if a1_4 = (wrap64 (a2 + 1)) then (circuit_gate.j3 kj66 a2 true a0_0 a0_1 a0_2 a0_3 a0_4 l0_5 a1_0 a1_1 a1_2 a1_3 a1_4) else (some (0, 3))) else (circuit_gate.j3 kj66 a2 true a0_0 a0_1 a0_2 a0_3 a0_4 l0_5 a1_0 a1_1 a1_2 a1_3 a1_4)) else (some (0, 3))) = some (r1, r2) := by rw [if_pos rfl] at H; exact H
            clear H; have H := H1; clear H1
            by_cases c75 : a1_1 = a2
            ·rw [if_pos c75] at H
             have c75b0 : (a1_1 == a2) = true := beq_iff_eq.mpr c75; have c75b1 : (a1_1 != a2) = false := bne_eq_false_iff_eq.mpr c75; clear c75
             by_cases c76 : a1_0 = 7
             ·rw [if_pos c76] at H
              have c76b0 : (a1_0 == 7) = true := beq_iff_eq.mpr c76; have c76b1 : (a1_0 != 7) = false := bne_eq_false_iff_eq.mpr c76; clear c76
              by_cases c77 : a1_4 = (wrap64 (a2 + 1))
              ·rw [if_pos c77] at H
               have c77b0 : (a1_4 == (wrap64 (a2 + 1))) = true := beq_iff_eq.mpr c77; have c77b1 : (a1_4 != (wrap64 (a2 + 1))) = false := bne_eq_false_iff_eq.mpr c77; clear c77; have H' := Aside0.mk H; clear H; have hnb78 := NB140_139.out; have hnc78 := NB139_140.out
               have hcz79 := fun i => blk_cell BK140.out i
               have hfz79 := fun i => blk_frozen BK140.out i
               go_wp2
               go_meet
               case rel => exact ⟨_, H', ⟨by have := HJ10.out; have := HJ50.out; have := HJ66.out; first | omega | exact Nat.le_refl _⟩, ⟨bkA BK139.out⟩, ⟨bkA BK140.out⟩, ⟨blA HB.out⟩⟩
              ·rw [if_neg c77] at H
               have c77b0 : (a1_4 == (wrap64 (a2 + 1))) = false := beq_eq_false_iff_ne.mpr c77; have c77b1 : (a1_4 != (wrap64 (a2 + 1))) = true := bne_iff_ne.mpr c77
               simp only [Option.some.injEq, Prod.mk.injEq] at H
               obtain ⟨rfl, rfl⟩ := H; have hnb80 := NB140_139.out; have hnc80 := NB139_140.out
               have hcz81 := fun i => blk_cell BK140.out i
               have hfz81 := fun i => blk_frozen BK140.out i
               go_wp2
               go_ret2
               exact ⟨by first | rfl | (simp [errW_none, errW_some] <;> rfl) | (simp [*, errW_none, errW_some] <;> rfl), blA HB.out⟩
             ·rw [if_neg c76] at H
              have c76b0 : (a1_0 == 7) = false := beq_eq_false_iff_ne.mpr c76; have c76b1 : (a1_0 != 7) = true := bne_iff_ne.mpr c76; have H' := Aside0.mk H; clear H; have hnb82 := NB140_139.out; have hnc82 := NB139_140.out
              have hcz83 := fun i => blk_cell BK140.out i
              have hfz83 := fun i => blk_frozen BK140.out i
              go_wp2
              go_meet
              case rel => exact ⟨_, H', ⟨by have := HJ10.out; have := HJ50.out; have := HJ66.out; first | omega | exact Nat.le_refl _⟩, ⟨bkA BK139.out⟩, ⟨bkA BK140.out⟩, ⟨blA HB.out⟩⟩
            ·rw [if_neg c75] at H
             have c75b0 : (a1_1 == a2) = false := beq_eq_false_iff_ne.mpr c75; have c75b1 : (a1_1 != a2) = true := bne_iff_ne.mpr c75
             simp only [Option.some.injEq, Prod.mk.injEq] at H
             obtain ⟨rfl, rfl⟩ := H; have hnb84 := NB140_139.out; have hnc84 := NB139_140.out
             have hcz85 := fun i => blk_cell BK140.out i
             have hfz85 := fun i => blk_frozen BK140.out i
             go_wp2
             go_ret2
             exact ⟨by first | rfl | (simp [errW_none, errW_some] <;> rfl) | (simp [*, errW_none, errW_some] <;> rfl), blA HB.out⟩
           ·replace c74 := Bool.eq_false_iff.mpr c74; subst c74
            have H1 : (if a1_0 = 7 then (if a1_4 = (wrap64 (a2 + 1)) then (circuit_gate.j3 kj66 a2 false a0_0 a0_1 a0_2 a0_3 a0_4 l0_5 a1_0 a1_1 a1_2 a1_3 a1_4) else (some (0, 3))) else (circuit_gate.j3 kj66 a2 false a0_0 a0_1 a0_2 a0_3 a0_4 l0_5 a1_0 a1_1 a1_2 a1_3 a1_4)) = some (r1, r2) := by rw [if_neg (show ¬ (false = true) by decide)] at H; exact H
            clear H; have H := H1; clear H1
            by_cases c86 : a1_0 = 7
            ·rw [if_pos c86] at H
             have c86b0 : (a1_0 == 7) = true := beq_iff_eq.mpr c86; have c86b1 : (a1_0 != 7) = false := bne_eq_false_iff_eq.mpr c86; clear c86
             by_cases c87 : a1_4 = (wrap64 (a2 + 1))
             ·rw [if_pos c87] at H
              have c87b0 : (a1_4 == (wrap64 (a2 + 1))) = true := beq_iff_eq.mpr c87; have c87b1 : (a1_4 != (wrap64 (a2 + 1))) = false := bne_eq_false_iff_eq.mpr c87; clear c87; have H' := Aside0.mk H; clear H; have hnb88 := NB140_139.out; have hnc88 := NB139_140.out
              have hcz89 := fun i => blk_cell BK140.out i
              have hfz89 := fun i => blk_frozen BK140.out i
              go_wp2
              go_meet
              case rel => exact ⟨_, H', ⟨by have := HJ10.out; have := HJ50.out; have := HJ66.out; first | omega | exact Nat.le_refl _⟩, ⟨bkA BK139.out⟩, ⟨bkA BK140.out⟩, ⟨blA HB.out⟩⟩
             ·rw [if_neg c87] at H
              have c87b0 : (a1_4 == (wrap64 (a2 + 1))) = false := beq_eq_false_iff_ne.mpr c87; have c87b1 : (a1_4 != (wrap64 (a2 + 1))) = true := bne_iff_ne.mpr c87
              simp only [Option.some.injEq, Prod.mk.injEq] at H
              obtain ⟨rfl, rfl⟩ := H; have hnb90 := NB140_139.out; have hnc90 := NB139_140.out
              have hcz91 := fun i => blk_cell BK140.out i
              have hfz91 := fun i => blk_frozen BK140.out i
              go_wp2
              go_ret2
              exact ⟨by first | rfl | (simp [errW_none, errW_some] <;> rfl) | (simp [*, errW_none, errW_some] <;> rfl), blA HB.out⟩
            ·rw [if_neg c86] at H
             have c86b0 : (a1_0 == 7) = false := beq_eq_false_iff_ne.mpr c86; have c86b1 : (a1_0 != 7) = true := bne_iff_ne.mpr c86; have H' := Aside0.mk H; clear H; have hnb92 := NB140_139.out; have hnc92 := NB139_140.out
             have hcz93 := fun i => blk_cell BK140.out i
             have hfz93 := fun i => blk_frozen BK140.out i
             go_wp2
             go_meet
             case rel => exact ⟨_, H', ⟨by have := HJ10.out; have := HJ50.out; have := HJ66.out; first | omega | exact Nat.le_refl _⟩, ⟨bkA BK139.out⟩, ⟨bkA BK140.out⟩, ⟨blA HB.out⟩⟩
 case rest =>
  clear HC6; (try clear c1); (try clear c2); (try clear p2); (try clear c3); (try clear c4); (try clear c5); (try clear c6); (try clear p6); (try clear c7); (try clear c8); (try clear c9); (try clear c11); (try clear c12); (try clear c12b0); (try clear c13); (try clear c15); (try clear c15b0); (try clear c16); (try clear c18); (try clear c19); (try clear c20); (try clear c21); (try clear c23); (try clear c25); (try clear c25b0); (try clear c25b1); (try clear c26); (try clear c27); (try clear c29); (try clear c31); (try clear c33); (try clear c33b0); (try clear c33b1); (try clear c34); (try clear c35); (try clear c36); (try clear c38); (try clear c40); (try clear c40b0); (try clear c40b1); (try clear c41); (try clear c42); (try clear c44); (try clear c46); (try clear c48); (try clear c50); (try clear c52); (try clear c52b0); (try clear c53); (try clear c55); (try clear c55b0); (try clear c56); (try clear c58); (try clear c58b0); (try clear c59); (try clear c61); (try clear c62); (try clear c64); (try clear p64); (try clear c66); (try clear c68); (try clear c68b0); (try clear c68b1); (try clear c70); (try clear c73); (try clear c74); (try clear c75); (try clear c75b0); (try clear c75b1); (try clear c76); (try clear c76b0); (try clear c76b1); (try clear c77); (try clear c77b0); (try clear c77b1); (try clear c78); (try clear c80); (try clear c82); (try clear c84); (try clear c86); (try clear c86b0); (try clear c86b1); (try clear c87); (try clear c87b0); (try clear c87b1); (try clear c88); (try clear c90); (try clear c92); (try clear hcz10); (try clear hcz14); (try clear hcz17); (try clear hcz22); (try clear hcz24); (try clear hcz28); (try clear hcz30); (try clear hcz32); (try clear hcz37); (try clear hcz39); (try clear hcz43); (try clear hcz45); (try clear hcz47); (try clear hcz49); (try clear hcz54); (try clear hcz57); (try clear hcz60); (try clear hcz63); (try clear hcz65); (try clear hcz71); (try clear hcz72); (try clear hcz79); (try clear hcz81); (try clear hcz83); (try clear hcz85); (try clear hcz89); (try clear hcz91); (try clear hcz93); (try clear hfz10); (try clear hfz14); (try clear hfz17); (try clear hfz22); (try clear hfz24); (try clear hfz28); (try clear hfz30); (try clear hfz32); (try clear hfz37); (try clear hfz39); (try clear hfz43); (try clear hfz45); (try clear hfz47); (try clear hfz49); (try clear hfz54); (try clear hfz57); (try clear hfz60); (try clear hfz63); (try clear hfz65); (try clear hfz71); (try clear hfz72); (try clear hfz79); (try clear hfz81); (try clear hfz83); (try clear hfz85); (try clear hfz89); (try clear hfz91); (try clear hfz93); (try clear p2); obtain ⟨kq, HA, HJ5, BK139, BK140, HB⟩ := hcut
  cases kq with
  | zero => exact absurd HA.out (by simp [circuit_gate.j3])
  | succ kj5 =>
   have H := HA.out; clear HA
   simp only [circuit_gate.j3] at H
   have HC94 := Aside0.mk H; clear H
   go_upto_if 114 with (fail)
   go_cut [2] (fun v2 wc => ∃ (kq : Nat) (x2_93 : Int), v2 = .int .i64 x2_93 ∧ Aside0 (circuit_gate.j4 kq x2_93 a0_0 a0_1 a0_2 a0_3 a0_4 l0_5 a1_0 a1_1 a1_2 a1_3 a1_4 = some (r1, r2)) ∧ Aside0 (kq ≤ kj5) ∧ Aside0 (wc.heap[gb139]? = some (.cells #[.int .i64 a0_0, .int .i64 a0_1, .int .i64 a0_2, .int .i64 a0_3, .int .i64 a0_4, (.slice A0_5 l0_5.length c0_5)] 24 (0, 0))) ∧ Aside0 (wc.heap[gb140]? = some (.cells #[.int .i64 a1_0, .int .i64 a1_1, .int .i64 a1_2, .int .i64 a1_3, .int .i64 a1_4] 105 (0, 0))) ∧ Aside0 (Below w.heap.size w wc))
   case first =>
    have H := HC94.out; clear HC94
    by_cases c95 : t142 = true
    ·subst c95
     have H1 : (circuit_gate.j4 kj5 (wrap64 (a2 + 1)) a0_0 a0_1 a0_2 a0_3 a0_4 l0_5 a1_0 a1_1 a1_2 a1_3 a1_4) = some (r1, r2) := by rw [if_pos rfl] at H; exact H
     clear H; have H := H1; clear H1; have H' := Aside0.mk H; clear H
     go_wp2
     go_meet
     case rel => exact ⟨_, (wrap64 (a2 + 1)), eqA, H', ⟨by have := HJ5.out; first | omega | exact Nat.le_refl _⟩, ⟨bkA BK139.out⟩, ⟨bkA BK140.out⟩, ⟨blA HB.out⟩⟩
    ·replace c95 := Bool.eq_false_iff.mpr c95; subst c95
     have H1 : (circuit_gate.j4 kj5 a2 a0_0 a0_1 a0_2 a0_3 a0_4 l0_5 a1_0 a1_1 a1_2 a1_3 a1_4) = some (r1, r2) := by rw [if_neg (show ¬ (false = true) by decide)] at H; exact H
     clear H; have H := H1; clear H1; have H' := Aside0.mk H; clear H
     go_wp2
     go_meet
     case rel => exact ⟨_, (a2), eqA, H', ⟨by have := HJ5.out; first | omega | exact Nat.le_refl _⟩, ⟨bkA BK139.out⟩, ⟨bkA BK140.out⟩, ⟨blA HB.out⟩⟩
   case rest =>
    clear HC94; (try clear c1); (try clear c2); (try clear p2); (try clear c3); (try clear c4); (try clear c5); (try clear c6); (try clear p6); (try clear c7); (try clear c8); (try clear c9); (try clear c11); (try clear c12); (try clear c12b0); (try clear c13); (try clear c15); (try clear c15b0); (try clear c16); (try clear c18); (try clear c19); (try clear c20); (try clear c21); (try clear c23); (try clear c25); (try clear c25b0); (try clear c25b1); (try clear c26); (try clear c27); (try clear c29); (try clear c31); (try clear c33); (try clear c33b0); (try clear c33b1); (try clear c34); (try clear c35); (try clear c36); (try clear c38); (try clear c40); (try clear c40b0); (try clear c40b1); (try clear c41); (try clear c42); (try clear c44); (try clear c46); (try clear c48); (try clear c50); (try clear c52); (try clear c52b0); (try clear c53); (try clear c55); (try clear c55b0); (try clear c56); (try clear c58); (try clear c58b0); (try clear c59); (try clear c61); (try clear c62); (try clear c64); (try clear p64); (try clear c66); (try clear c68); (try clear c68b0); (try clear c68b1); (try clear c70); (try clear c73); (try clear c74); (try clear c75); (try clear c75b0); (try clear c75b1); (try clear c76); (try clear c76b0); (try clear c76b1); (try clear c77); (try clear c77b0); (try clear c77b1); (try clear c78); (try clear c80); (try clear c82); (try clear c84); (try clear c86); (try clear c86b0); (try clear c86b1); (try clear c87); (try clear c87b0); (try clear c87b1); (try clear c88); (try clear c90); (try clear c92); (try clear c95); (try clear hcz10); (try clear hcz14); (try clear hcz17); (try clear hcz22); (try clear hcz24); (try clear hcz28); (try clear hcz30); (try clear hcz32); (try clear hcz37); (try clear hcz39); (try clear hcz43); (try clear hcz45); (try clear hcz47); (try clear hcz49); (try clear hcz54); (try clear hcz57); (try clear hcz60); (try clear hcz63); (try clear hcz65); (try clear hcz71); (try clear hcz72); (try clear hcz79); (try clear hcz81); (try clear hcz83); (try clear hcz85); (try clear hcz89); (try clear hcz91); (try clear hcz93); (try clear hfz10); (try clear hfz14); (try clear hfz17); (try clear hfz22); (try clear hfz24); (try clear hfz28); (try clear hfz30); (try clear hfz32); (try clear hfz37); (try clear hfz39); (try clear hfz43); (try clear hfz45); (try clear hfz47); (try clear hfz49); (try clear hfz54); (try clear hfz57); (try clear hfz60); (try clear hfz63); (try clear hfz65); (try clear hfz71); (try clear hfz72); (try clear hfz79); (try clear hfz81); (try clear hfz83); (try clear hfz85); (try clear hfz89); (try clear hfz91); (try clear hfz93); (try clear p2); (try clear p6); (try clear p64); obtain ⟨kq, x2_93, rfl, HA, HJ93, BK139, BK140, HB⟩ := hcut
    cases kq with
    | zero => exact absurd HA.out (by simp [circuit_gate.j4])
    | succ kj93 =>
     have H := HA.out; clear HA
     simp only [circuit_gate.j4] at H
     by_cases c96 : a1_0 = 7
     ·rw [if_pos c96] at H
      have c96b0 : (a1_0 == 7) = true := beq_iff_eq.mpr c96; have c96b1 : (a1_0 != 7) = false := bne_eq_false_iff_eq.mpr c96; clear c96
      by_cases c97 : 0 ≤ a0_2
      ·rw [if_pos c97] at H
       have c97b0 := eq_true c97; have c97b1 : decide (0 ≤ a0_2) = true := decide_eq_true c97; clear c97
       obtain ⟨ji98, hji98⟩ : ∃ j_ : Int, (shl .i64 1 a0_2) = j_ := ⟨_, rfl⟩
       replace H : (if (wrap64 (x2_93 + 1)) > (ji98) then (some (0, 2)) else (some (wrap64 (x2_93 + 1), 0))) = some (r1, r2) := by first | (rw [hji98] at H; exact H) | (simp only [hji98] at H ⊢; exact H)
       have hji98_ : (IntKind.i64.wrap (1 * 2 ^ min a0_2.toNat 64)) = ji98 := hji98; have hji98z : a0_2 ≤ 64 → (IntKind.i64.wrap (1 * 2 ^ a0_2.toNat)) = ji98 := shl_small hji98
       have hji98u : (IntKind.i64.wrap (2 ^ min a0_2.toNat 64)) = ji98 := by have h_ := hji98_; rw [Int.one_mul] at h_; exact h_
       have hji98v : a0_2 ≤ 64 → (IntKind.i64.wrap (2 ^ a0_2.toNat)) = ji98 := fun hle_ => by have h_ := hji98z hle_; rw [Int.one_mul] at h_; exact h_
       have hji98y : (wrap64 (1 * 2 ^ min a0_2.toNat 64)) = ji98 := (i64_w _).symm.trans hji98_
       have hji98x : a0_2 ≤ 64 → (wrap64 (1 * 2 ^ a0_2.toNat)) = ji98 := fun h_ => (i64_w _).symm.trans (hji98z h_)
       by_cases c99 : (wrap64 (x2_93 + 1)) > (ji98)
       ·rw [if_pos c99] at H
        have c99b0 : decide ((ji98) < (wrap64 (x2_93 + 1))) = true := decide_eq_true c99; clear c99
        simp only [Option.some.injEq, Prod.mk.injEq] at H
        obtain ⟨rfl, rfl⟩ := H; have hnb100 := NB140_139.out; have hnc100 := NB139_140.out
        have hcz101 := fun i => blk_cell BK140.out i
        have hfz101 := fun i => blk_frozen BK140.out i
        have hcz102 := fun i => blk_cell BK139.out i
        have hfz102 := fun i => blk_frozen BK139.out i
        go_wp2
        go_ret2
        exact ⟨by first | rfl | (simp [errW_none, errW_some] <;> rfl) | (simp only [← hji98]; first | rfl | (simp [errW_none, errW_some] <;> rfl)) | (simp [*, errW_none, errW_some] <;> rfl), blA HB.out⟩
       ·rw [if_neg c99] at H
        have c99b0 : decide ((ji98) < (wrap64 (x2_93 + 1))) = false := decide_eq_false c99; clear c99
        simp only [Option.some.injEq, Prod.mk.injEq] at H
        obtain ⟨rfl, rfl⟩ := H; have hnb103 := NB140_139.out; have hnc103 := NB139_140.out
        have hcz104 := fun i => blk_cell BK140.out i
        have hfz104 := fun i => blk_frozen BK140.out i
        have hcz105 := fun i => blk_cell BK139.out i
        have hfz105 := fun i => blk_frozen BK139.out i
        go_wp2
        go_ret2
        exact ⟨by first | rfl | (simp [errW_none, errW_some] <;> rfl) | (simp only [← hji98]; first | rfl | (simp [errW_none, errW_some] <;> rfl)) | (simp [*, errW_none, errW_some] <;> rfl), blA HB.out⟩
      ·rw [if_neg c97] at H
       exact absurd H (by simp)
     ·rw [if_neg c96] at H
      have c96b0 : (a1_0 == 7) = false := beq_eq_false_iff_ne.mpr c96; have c96b1 : (a1_0 != 7) = true := bne_iff_ne.mpr c96
      by_cases c106 : 0 ≤ a0_2
      ·rw [if_pos c106] at H
       have c106b0 := eq_true c106; have c106b1 : decide (0 ≤ a0_2) = true := decide_eq_true c106; clear c106
       obtain ⟨ji107, hji107⟩ : ∃ j_ : Int, (shl .i64 1 a0_2) = j_ := ⟨_, rfl⟩
       replace H : (if x2_93 > (ji107) then (some (0, 2)) else (some (x2_93, 0))) = some (r1, r2) := by first | (rw [hji107] at H; exact H) | (simp only [hji107] at H ⊢; exact H)
       have hji107_ : (IntKind.i64.wrap (1 * 2 ^ min a0_2.toNat 64)) = ji107 := hji107; have hji107z : a0_2 ≤ 64 → (IntKind.i64.wrap (1 * 2 ^ a0_2.toNat)) = ji107 := shl_small hji107
       have hji107u : (IntKind.i64.wrap (2 ^ min a0_2.toNat 64)) = ji107 := by have h_ := hji107_; rw [Int.one_mul] at h_; exact h_
       have hji107v : a0_2 ≤ 64 → (IntKind.i64.wrap (2 ^ a0_2.toNat)) = ji107 := fun hle_ => by have h_ := hji107z hle_; rw [Int.one_mul] at h_; exact h_
       have hji107y : (wrap64 (1 * 2 ^ min a0_2.toNat 64)) = ji107 := (i64_w _).symm.trans hji107_
       have hji107x : a0_2 ≤ 64 → (wrap64 (1 * 2 ^ a0_2.toNat)) = ji107 := fun h_ => (i64_w _).symm.trans (hji107z h_)
       by_cases c108 : x2_93 > (ji107)
       ·rw [if_pos c108] at H
        have c108b0 : decide ((ji107) < x2_93) = true := decide_eq_true c108; clear c108
        simp only [Option.some.injEq, Prod.mk.injEq] at H
        obtain ⟨rfl, rfl⟩ := H; have hnb109 := NB140_139.out; have hnc109 := NB139_140.out
        have hcz110 := fun i => blk_cell BK140.out i
        have hfz110 := fun i => blk_frozen BK140.out i
        have hcz111 := fun i => blk_cell BK139.out i
        have hfz111 := fun i => blk_frozen BK139.out i
        go_wp2
        go_ret2
        exact ⟨by first | rfl | (simp [errW_none, errW_some] <;> rfl) | (simp only [← hji107]; first | rfl | (simp [errW_none, errW_some] <;> rfl)) | (simp [*, errW_none, errW_some] <;> rfl), blA HB.out⟩
       ·rw [if_neg c108] at H
        have c108b0 : decide ((ji107) < x2_93) = false := decide_eq_false c108; clear c108
        simp only [Option.some.injEq, Prod.mk.injEq] at H
        obtain ⟨rfl, rfl⟩ := H; have hnb112 := NB140_139.out; have hnc112 := NB139_140.out
        have hcz113 := fun i => blk_cell BK140.out i
        have hfz113 := fun i => blk_frozen BK140.out i
        have hcz114 := fun i => blk_cell BK139.out i
        have hfz114 := fun i => blk_frozen BK139.out i
        go_wp2
        go_ret2
        exact ⟨by first | rfl | (simp [errW_none, errW_some] <;> rfl) | (simp only [← hji107]; first | rfl | (simp [errW_none, errW_some] <;> rfl)) | (simp [*, errW_none, errW_some] <;> rfl), blA HB.out⟩
      ·rw [if_neg c106] at H
       exact absurd H (by simp)
end Go.Proofs.Ythiiodgpdoljoaa.PLw
