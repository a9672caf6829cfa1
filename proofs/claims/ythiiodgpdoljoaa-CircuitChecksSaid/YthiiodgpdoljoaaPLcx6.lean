-- Laid by our own driver (wip/tools/xprint.py) out of the kit's print.
import Derived.Test.YthiiodgpdoljoaaPLcx0
namespace Go.Proofs.Ythiiodgpdoljoaa.PLc
open Go.RowKit Go.Proofs.YthiiodgpdoljoaaW.PrintWords Go.Proofs.YthiiodgpdoljoaaW.PrintLast Go.Proofs.YthiiodgpdoljoaaW.PrintMore
attribute [local go_sem] max2_int min2_int max_two min_two max_three min_three max_four min_four   -- for this text's walks alone
set_option linter.unusedVariables false
set_option linter.unusedSimpArgs false

/-! ### circuit_needs: function 121 -/
mutual
def circuit_needs.j0 : Nat → Bool → Bool → Bool → Int → Bool → Option (Bool × Bool × Bool)
 | 0, _, _, _, _, _ => none
 | k + 1, x2, x3, x4, x5, x8 => if x8 = true then (some (true, true, x4)) else (if x5 = 8 then (some (true, x3, x4)) else (if x5 = 4 then (circuit_needs.j1 k x2 x3 x4 x5 (x5 == 4)) else (if x5 = 5 then (circuit_needs.j1 k x2 x3 x4 x5 (x5 == 5)) else (circuit_needs.j1 k x2 x3 x4 x5 (x5 == 6)))))
def circuit_needs.j1 : Nat → Bool → Bool → Bool → Int → Bool → Option (Bool × Bool × Bool)
 | 0, _, _, _, _, _ => none
 | k + 1, x2, x3, x4, x5, x13 => if x13 = true then (some (x2, true, true)) else (if x5 = 3 then (some (x2, true, x4)) else (some (x2, x3, x4)))
end
def circuit_needs.f (k : Nat) (a0 : Int) : Option (Bool × Bool × Bool) := if a0 = 7 then (some (true, true, true)) else (if a0 = 1 then (circuit_needs.j0 k false false false a0 (a0 == 1)) else (circuit_needs.j0 k false false false a0 (a0 == 2)))
theorem circuit_needs.mono_l : ∀ k, (∀ y0 y1 y2 y3 y4, LeO (circuit_needs.j0 k y0 y1 y2 y3 y4) (circuit_needs.j0 (k + 1) y0 y1 y2 y3 y4)) ∧ (∀ y0 y1 y2 y3 y4, LeO (circuit_needs.j1 k y0 y1 y2 y3 y4) (circuit_needs.j1 (k + 1) y0 y1 y2 y3 y4))
 | 0 => ⟨fun _ _ _ _ _ r h => by simp [circuit_needs.j0] at h, fun _ _ _ _ _ r h => by simp [circuit_needs.j1] at h⟩
 | k + 1 => by
  obtain ⟨ih0, ih1⟩ := circuit_needs.mono_l k
  refine ⟨?_, ?_⟩
  ·intro y0 y1 y2 y3 y4
   unfold circuit_needs.j0
   repeat' first
   | (with_reducible exact ih0 _ _ _ _ _)
   | (with_reducible exact ih1 _ _ _ _ _)
   | (with_reducible exact LeO.refl _)
   | (with_reducible exact LeO.none _)
   | (with_reducible refine LeO.ite ?_ ?_)
   | (with_reducible refine LeO.bind ?_ (fun _ => ?_))
   | exact ih0 _ _ _ _ _
   | exact ih1 _ _ _ _ _
   | exact LeO.none _
   | refine LeO.ite ?_ ?_
   | refine LeO.bind ?_ (fun _ => ?_)
  ·intro y0 y1 y2 y3 y4
   unfold circuit_needs.j1
   repeat' first
   | (with_reducible exact ih0 _ _ _ _ _)
   | (with_reducible exact ih1 _ _ _ _ _)
   | (with_reducible exact LeO.refl _)
   | (with_reducible exact LeO.none _)
   | (with_reducible refine LeO.ite ?_ ?_)
   | (with_reducible refine LeO.bind ?_ (fun _ => ?_))
   | exact ih0 _ _ _ _ _
   | exact ih1 _ _ _ _ _
   | exact LeO.none _
   | refine LeO.ite ?_ ?_
   | refine LeO.bind ?_ (fun _ => ?_)
theorem circuit_needs.mono : ∀ a0 k, LeO (circuit_needs.f k a0) (circuit_needs.f (k + 1) a0) := by
 intro a0 k
 obtain ⟨ih0, ih1⟩ := circuit_needs.mono_l k
 unfold circuit_needs.f
 repeat' first
   | (with_reducible exact ih0 _ _ _ _ _)
   | (with_reducible exact ih1 _ _ _ _ _)
   | (with_reducible exact LeO.refl _)
   | (with_reducible exact LeO.none _)
   | (with_reducible refine LeO.ite ?_ ?_)
   | (with_reducible refine LeO.bind ?_ (fun _ => ?_))
   | exact ih0 _ _ _ _ _
   | exact ih1 _ _ _ _ _
   | exact LeO.none _
   | refine LeO.ite ?_ ?_
   | refine LeO.bind ?_ (fun _ => ?_)
set_option maxHeartbeats 8000000 in
set_option maxRecDepth 100000 in
theorem circuit_needs.calls (k : Nat) (a0 : Int) (r1 : Bool) (r2 : Bool) (r3 : Bool) (w : World) (h : circuit_needs.f k a0 = some (r1, r2, r3)) :
  Calls Try.prog 121 #[.int .i64 a0] w fun e w' => e = .returned (.tuple #[.bool r1, .bool r2, .bool r3]) ∧ Drawn0 w w' := by
 have H : (if a0 = 7 then (some (true, true, true)) else (if a0 = 1 then (circuit_needs.j0 k false false false a0 (a0 == 1)) else (circuit_needs.j0 k false false false a0 (a0 == 2)))) = some (r1, r2, r3) := h
 clear h
 by_cases c2 : a0 = 7
 ·rw [if_pos c2] at H
  have c2b0 : (a0 == 7) = true := beq_iff_eq.mpr c2; have c2b1 : (a0 != 7) = false := bne_eq_false_iff_eq.mpr c2; clear c2
  simp only [Option.some.injEq, Prod.mk.injEq] at H
  obtain ⟨rfl, rfl, rfl⟩ := H
  go_enter Try.func121, Try.ntmps121
  go_wp2
  go_ret3
  exact ⟨eqA, dwA⟩
 ·rw [if_neg c2] at H
  have c2b0 : (a0 == 7) = false := beq_eq_false_iff_ne.mpr c2; have c2b1 : (a0 != 7) = true := bne_iff_ne.mpr c2; have HC3 := Aside0.mk H; clear H
  go_enter Try.func121, Try.ntmps121
  go_upto_if 8 with (fail)
  go_cut [8] (fun v8 wc => ∃ (kq : Nat) (x8_2 : Bool), v8 = .bool x8_2 ∧ Aside0 (circuit_needs.j0 kq false false false a0 x8_2 = some (r1, r2, r3)) ∧ Aside0 (kq ≤ k) ∧ Drawn0 w wc)
  case first =>
   have H := HC3.out; clear HC3
   by_cases c4 : a0 = 1
   ·rw [if_pos c4] at H
    have c4b0 : (a0 == 1) = true := beq_iff_eq.mpr c4; have c4b1 : (a0 != 1) = false := bne_eq_false_iff_eq.mpr c4; clear c4
    (first | rw [c4b0] | (simp only [i64_w, i32_w]; rw [c4b0]) | skip)
    have H' := Aside0.mk H; clear H
    go_wp2
    go_meet
    case rel => exact ⟨_, ((a0 == 1)), eqA, H', ⟨omA⟩, dwA⟩
   ·rw [if_neg c4] at H
    have c4b0 : (a0 == 1) = false := beq_eq_false_iff_ne.mpr c4; have c4b1 : (a0 != 1) = true := bne_iff_ne.mpr c4
    (first | rw [c4b0] | (simp only [i64_w, i32_w]; rw [c4b0]) | skip)
    have H' := Aside0.mk H; clear H
    go_wp2
    go_meet
    case rel => exact ⟨_, ((a0 == 2)), eqA, H', ⟨omA⟩, dwA⟩
  case rest =>
   clear HC3; (try clear c1); (try clear c2); (try clear c2b0); (try clear c2b1); (try clear p2); (try clear c4); (try clear c4b0); (try clear c4b1)
   obtain ⟨kq, x8_2, rfl, HA, HJ2, ⟨mc2, rfl⟩⟩ := hcut
   cases kq with
   | zero => exact absurd HA.out (by simp [circuit_needs.j0])
   | succ kj2 =>
    have H := HA.out; clear HA
    simp only [circuit_needs.j0] at H
    by_cases c5 : x8_2 = true
    ·subst c5
     have H1 : (some (true, true, false)) = some (r1, r2, r3) := by rw [if_pos rfl] at H; exact H
     clear H; have H := H1; clear H1
     simp only [Option.some.injEq, Prod.mk.injEq] at H
     obtain ⟨rfl, rfl, rfl⟩ := H
     go_wp2
     go_ret3
     exact ⟨eqA, dwA⟩
    ·replace c5 := Bool.eq_false_iff.mpr c5; subst c5
     have H1 : (if a0 = 8 then (some (true, false, false)) else (if a0 = 4 then (circuit_needs.j1 kj2 false false false a0 (a0 == 4)) else (if a0 = 5 then (circuit_needs.j1 kj2 false false false a0 (a0 == 5)) else (circuit_needs.j1 kj2 false false false a0 (a0 == 6))))) = some (r1, r2, r3) := by rw [if_neg (show ¬ (false = true) by decide)] at H; exact H
     clear H; have H := H1; clear H1
     by_cases c6 : a0 = 8
     ·rw [if_pos c6] at H
      have c6b0 : (a0 == 8) = true := beq_iff_eq.mpr c6; have c6b1 : (a0 != 8) = false := bne_eq_false_iff_eq.mpr c6; clear c6
      simp only [Option.some.injEq, Prod.mk.injEq] at H
      obtain ⟨rfl, rfl, rfl⟩ := H
      go_wp2
      go_ret3
      exact ⟨eqA, dwA⟩
     ·rw [if_neg c6] at H
      have c6b0 : (a0 == 8) = false := beq_eq_false_iff_ne.mpr c6; have c6b1 : (a0 != 8) = true := bne_iff_ne.mpr c6; have HC7 := Aside0.mk H; clear H
      go_upto_if 13 with (fail)
      go_cut [13] (fun v13 wc => ∃ (kq : Nat) (x13_6 : Bool), v13 = .bool x13_6 ∧ Aside0 (circuit_needs.j1 kq false false false a0 x13_6 = some (r1, r2, r3)) ∧ Aside0 (kq ≤ kj2) ∧ Drawn0 w wc)
      case first =>
       have H := HC7.out; clear HC7
       by_cases c8 : a0 = 4
       ·rw [if_pos c8] at H
        have c8b0 : (a0 == 4) = true := beq_iff_eq.mpr c8; have c8b1 : (a0 != 4) = false := bne_eq_false_iff_eq.mpr c8; clear c8
        (first | rw [c8b0] | (simp only [i64_w, i32_w]; rw [c8b0]) | skip)
        have H' := Aside0.mk H; clear H
        go_wp2
        go_meet
        case rel => exact ⟨_, ((a0 == 4)), eqA, H', ⟨by have := HJ2.out; first | omega | exact Nat.le_refl _⟩, dwA⟩
       ·rw [if_neg c8] at H
        have c8b0 : (a0 == 4) = false := beq_eq_false_iff_ne.mpr c8; have c8b1 : (a0 != 4) = true := bne_iff_ne.mpr c8
        (first | rw [c8b0] | (simp only [i64_w, i32_w]; rw [c8b0]) | skip)
        by_cases c9 : a0 = 5
        ·rw [if_pos c9] at H
         have c9b0 : (a0 == 5) = true := beq_iff_eq.mpr c9; have c9b1 : (a0 != 5) = false := bne_eq_false_iff_eq.mpr c9; clear c9; have H' := Aside0.mk H; clear H
         go_wp2
         go_meet
         case rel => exact ⟨_, ((a0 == 5)), eqA, H', ⟨by have := HJ2.out; first | omega | exact Nat.le_refl _⟩, dwA⟩
        ·rw [if_neg c9] at H
         have c9b0 : (a0 == 5) = false := beq_eq_false_iff_ne.mpr c9; have c9b1 : (a0 != 5) = true := bne_iff_ne.mpr c9; have H' := Aside0.mk H; clear H
         go_wp2
         go_meet
         case rel => exact ⟨_, ((a0 == 6)), eqA, H', ⟨by have := HJ2.out; first | omega | exact Nat.le_refl _⟩, dwA⟩
      case rest =>
       clear HC7; (try clear c1); (try clear c2); (try clear c2b0); (try clear c2b1); (try clear p2); (try clear c4); (try clear c4b0); (try clear c4b1); (try clear c5); (try clear c6); (try clear c6b0); (try clear c6b1); (try clear c8); (try clear c8b0); (try clear c8b1); (try clear c9); (try clear c9b0); (try clear c9b1); (try clear p2)
       obtain ⟨kq, x13_6, rfl, HA, HJ6, ⟨mc6, rfl⟩⟩ := hcut
       cases kq with
       | zero => exact absurd HA.out (by simp [circuit_needs.j1])
       | succ kj6 =>
        have H := HA.out; clear HA
        simp only [circuit_needs.j1] at H
        by_cases c10 : x13_6 = true
        ·subst c10
         have H1 : (some (false, true, true)) = some (r1, r2, r3) := by rw [if_pos rfl] at H; exact H
         clear H; have H := H1; clear H1
         simp only [Option.some.injEq, Prod.mk.injEq] at H
         obtain ⟨rfl, rfl, rfl⟩ := H
         go_wp2
         go_ret3
         exact ⟨eqA, dwA⟩
        ·replace c10 := Bool.eq_false_iff.mpr c10; subst c10
         have H1 : (if a0 = 3 then (some (false, true, false)) else (some (false, false, false))) = some (r1, r2, r3) := by rw [if_neg (show ¬ (false = true) by decide)] at H; exact H
         clear H; have H := H1; clear H1
         by_cases c11 : a0 = 3
         ·rw [if_pos c11] at H
          have c11b0 : (a0 == 3) = true := beq_iff_eq.mpr c11; have c11b1 : (a0 != 3) = false := bne_eq_false_iff_eq.mpr c11; clear c11
          simp only [Option.some.injEq, Prod.mk.injEq] at H
          obtain ⟨rfl, rfl, rfl⟩ := H
          go_wp2
          go_ret3
          exact ⟨eqA, dwA⟩
         ·rw [if_neg c11] at H
          have c11b0 : (a0 == 3) = false := beq_eq_false_iff_ne.mpr c11; have c11b1 : (a0 != 3) = true := bne_iff_ne.mpr c11
          simp only [Option.some.injEq, Prod.mk.injEq] at H
          obtain ⟨rfl, rfl, rfl⟩ := H
          go_wp2
          go_ret3
          exact ⟨eqA, dwA⟩

end Go.Proofs.Ythiiodgpdoljoaa.PLc
